-- texts of this session, merged by a program of it (wip/gen/pack.py)
import Derived.Test.YtlpfmhikahlcoaaKFnWin2
import Derived.Test.YtlpfmhikahlcoaaKFnWin3
namespace Go.Proofs.Ytlpfmhikahlcoaa.G
open Go.Proofs.Ytlpfmhikahlcoaa.Sh Go.RowKit Go.Proofs.YtlpfmhikahlcoaaW.PrintWords Go.Proofs.YtlpfmhikahlcoaaW.PrintLast Go.Proofs.YtlpfmhikahlcoaaW.PrintMore
attribute [local go_sem] max2_int min2_int max_two min_two max_three min_three max_four min_four
set_option linter.unusedVariables false
set_option linter.unusedSimpArgs false
open Go.Proofs.Ytlpfmhikahlcoaa.Mp
def plF:Nat→List Bool→List (ByteArray × Int)→Int→List Int→List Int→Int→Option (List Int)
  | 0,_,_,_,_,_,_=>none
  | k + 1,owns,L,n,vals,moves,i=>if i < n then (if 0≤i∧i < (owns.length:Int)∧vals.length < 17592186044416 then
   (if rdOf false owns i=true then (impl_valsKey.f k vals).bind fun key=>if key.size≤maxLen then plF k owns L n (vals ++ [mget L key]) moves (wrap64 (i + 1)) else none
   else if 0 < moves.length then (if rd moves 0=0 then plF k owns L n (vals ++ [0]) (moves.drop 1) (wrap64 (i + 1)) else plF k owns L n (vals ++ [1]) (moves.drop 1) (wrap64 (i + 1))) else plF k owns L n (vals ++ [0]) moves (wrap64 (i + 1))) else none) else some vals
def impl_Play.f (k:Nat) (l0:List Bool) (a1_0:Int) (a1_1:ByteArray) (a2:Int) (l3:List (S108)) (l4:List Int):Option Int :=
 (impl_rowed.f k l0 a1_0 a1_1).bind fun t=>if t=true then (if a2=0∨a2=1 then
  (impl_Owner.f k l0 a2).bind fun owns=>(pkF k l3 [] 0).bind fun L=>(plF k owns L a1_0 [] l4 0).bind fun vals=>impl_TableAt.f k a1_0 a1_1 vals else some (-1)) else some (-1)
set_option maxHeartbeats 80000000 in
set_option maxRecDepth 100000 in
theorem impl_Play.calls (k:Nat) (A0:Option Addr) (c0:Nat) (l0:List Bool) (a1_0:Int) (a1_1:ByteArray) (a2:Int) (A3:Option Addr) (c3:Nat) (l3:List (S108)) (A4:Option Addr) (c4:Nat) (l4:List Int) (r:Int) (w:World) (hr0:Kd.C Kd.bool w A0 l0.length l0) (hc0:l0.length≤c0) (hr3:Kd.C k108 w A3 l3.length l3) (hc3:l3.length≤c3) (hr4:Kd.C (Kd.int .i64) w A4 l4.length l4) (hc4:l4.length≤c4) (h:impl_Play.f k l0 a1_0 a1_1 a2 l3 l4=some r) :
  Calls Try.prog 55 #[.slice A0 l0.length c0,.agg #[.int .i64 a1_0,.string a1_1],.int .i64 a2,.slice A3 l3.length c3,.slice A4 l4.length c4] w fun e w'=>e = .returned (.int .i64 r)∧Below w.heap.size w w':=by
 have HR0:=Aside0.mk hr0;have HC0:=Aside0.mk hc0;have HR3:=Aside0.mk hr3;have HC3:=Aside0.mk hc3;have HR4:=Aside0.mk hr4;have HC4:=Aside0.mk hc4;clear hr0 hc0 hr3 hc3 hr4 hc4;unfold impl_Play.f at h;obtain ⟨t,ht,h⟩:=Option.bind_eq_some_iff.1 h;have HT:=Aside0.mk ht;clear ht
 cases t with
  | false =>
  rw [if_neg (by decide)] at h;obtain rfl:=Option.some.inj h;clear h
  go_enter Try.func55,Try.ntmps55
  go_wp2_with (first|((with_reducible refine gate_dst (N:=6) rfl ?_);refine bx (N:=6) (cs:=#[.int .i64 a1_0,.string a1_1]) (t:=29) ?_;intro gt hg w1 hbox hb;have BTa:=Aside0.mk hbox;have HXa:=Aside0.mk hb;have GT:=Aside0.mk (show w.heap.size≤gt by rw [hg];exact Nat.le_refl _);obtain ⟨hct0,hct1⟩:=c2_ BTa;clear hg hbox hb)|((with_reducible refine gate_callee (f:=59) rfl ?_);(try (refine gate_guard (by rfl) ?_;dsimp only));refine goesL_ (some 18) rfl rfl Try.func59 (by kernel_rfl) rfl #[.slice A0 l0.length c0,.agg #[.int .i64 a1_0,.string a1_1]] rfl ml ?_;(with_reducible refine (impl_rowed.calls k A0 c0 l0 a1_0 a1_1 false _ (Kd.C_below HR0.out HXa.out) HC0.out HT.out).mono ?_);rintro e w2 ⟨rfl,hb⟩;refine ⟨_,rfl,?_⟩;have HXb:=Aside0.mk (below_step HXa.out hb);have BTb:=Aside0.mk (blk_below BTa.out hb);clear hct0 hct1;clear hb HXa BTa;obtain ⟨hct0,hct1⟩:=c2_ BTb));go_ret;exact ⟨rfl,HXb.out⟩
  | true =>
 rw [if_pos rfl] at h
 by_cases c1:a2=0∨a2=1
 case neg =>
  rw [if_neg c1] at h;obtain rfl:=Option.some.inj h;clear h;have d1:(a2 != 0)=true:=bne_iff_ne.2 (fun e=>c1 (.inl e));have d2:(a2 != 1)=true:=bne_iff_ne.2 (fun e=>c1 (.inr e));clear c1
  go_enter Try.func55,Try.ntmps55
  go_wp2_with (first|((with_reducible refine gate_dst (N:=6) rfl ?_);refine bx (N:=6) (cs:=#[.int .i64 a1_0,.string a1_1]) (t:=29) ?_;intro gt hg w1 hbox hb;have BTa:=Aside0.mk hbox;have HXa:=Aside0.mk hb;have GT:=Aside0.mk (show w.heap.size≤gt by rw [hg];exact Nat.le_refl _);obtain ⟨hct0,hct1⟩:=c2_ BTa;clear hg hbox hb)|((with_reducible refine gate_callee (f:=59) rfl ?_);(try (refine gate_guard (by rfl) ?_;dsimp only));refine goesL_ (some 18) rfl rfl Try.func59 (by kernel_rfl) rfl #[.slice A0 l0.length c0,.agg #[.int .i64 a1_0,.string a1_1]] rfl ml ?_;(with_reducible refine (impl_rowed.calls k A0 c0 l0 a1_0 a1_1 true _ (Kd.C_below HR0.out HXa.out) HC0.out HT.out).mono ?_);rintro e w2 ⟨rfl,hb⟩;refine ⟨_,rfl,?_⟩;have HXb:=Aside0.mk (below_step HXa.out hb);have BTb:=Aside0.mk (blk_below BTa.out hb);clear hct0 hct1;clear hb HXa BTa;obtain ⟨hct0,hct1⟩:=c2_ BTb));go_ret;exact ⟨rfl,HXb.out⟩
 rw [if_pos c1] at h;obtain ⟨owns,hw,h⟩:=Option.bind_eq_some_iff.1 h;obtain ⟨L,hp,h⟩:=Option.bind_eq_some_iff.1 h;obtain ⟨R,hf,h⟩:=Option.bind_eq_some_iff.1 h;have HW:=Aside0.mk hw;have HP:=Aside0.mk hp;have HF:=Aside0.mk hf;have HTA:=Aside0.mk h;clear hw hp hf h
 have shared:∀ v:Int,(v=0∨v=1)→True:=fun _ _=>trivial
 rcases c1 with rfl|rfl
 ·go_enter Try.func55,Try.ntmps55
  go_wp2_with (first|((with_reducible refine gate_dst (N:=6) rfl ?_);refine bx (N:=6) (cs:=#[.int .i64 a1_0,.string a1_1]) (t:=29) ?_;intro gt hg w1 hbox hb;have BTa:=Aside0.mk hbox;have HXa:=Aside0.mk hb;have GT:=Aside0.mk (show w.heap.size≤gt by rw [hg];exact Nat.le_refl _);obtain ⟨hct0,hct1⟩:=c2_ BTa;clear hg hbox hb)|((with_reducible refine gate_callee (f:=59) rfl ?_);(try (refine gate_guard (by rfl) ?_;dsimp only));refine goesL_ (some 18) rfl rfl Try.func59 (by kernel_rfl) rfl #[.slice A0 l0.length c0,.agg #[.int .i64 a1_0,.string a1_1]] rfl ml ?_;(with_reducible refine (impl_rowed.calls k A0 c0 l0 a1_0 a1_1 true _ (Kd.C_below HR0.out HXa.out) HC0.out HT.out).mono ?_);rintro e w2 ⟨rfl,hb⟩;refine ⟨_,rfl,?_⟩;have HXb:=Aside0.mk (below_step HXa.out hb);have BTb:=Aside0.mk (blk_below BTa.out hb);clear hct0 hct1;clear hb HXa BTa;obtain ⟨hct0,hct1⟩:=c2_ BTb)|((with_reducible refine gate_callee (f:=90) rfl ?_);(try (refine gate_guard (by rfl) ?_;dsimp only));refine goesL_ (some 30) rfl rfl Try.func90 (by kernel_rfl) rfl #[.slice A0 l0.length c0,.int .i64 0] rfl ml ?_;(with_reducible refine (impl_Owner.calls k A0 c0 l0 0 owns _ (Kd.C_below HR0.out HXb.out) HC0.out HW.out).mono ?_);rintro e w3 ⟨v_,rfl,ho,hb⟩;refine ⟨_,rfl,?_⟩;have HO:=Aside0.mk (Kd.R_lower ho HXb.out.size);clear ho;have HXc:=Aside0.mk (below_step HXb.out hb);have BTc:=Aside0.mk (blk_below BTb.out hb);clear hct0 hct1;clear hb HXb BTb;obtain ⟨hct0,hct1⟩:=c2_ BTc;obtain ⟨Ao,co,eo⟩:=Kd.R_slice HO.out;subst eo)|((with_reducible refine gate_callee (f:=96) rfl ?_);(try (refine gate_guard (by rfl) ?_;dsimp only));refine goesL_ (some 32) rfl rfl Try.func96 (by kernel_rfl) rfl #[.slice A3 l3.length c3] rfl ml ?_;(with_reducible refine (picksOf.calls k A3 c3 l3 L _ (Kd.C_below HR3.out HXc.out) HC3.out HP.out).mono ?_);rintro e w4 ⟨mb,rfl,hm,hmg,hb⟩;refine ⟨_,rfl,?_⟩;have HM:=Aside0.mk hm;have MG:=Aside0.mk hmg;have A2:=Aside0.mk (Kd.R_below HO.out hb);clear hm hmg HO;have HXd:=Aside0.mk (below_step HXc.out hb);have BTd:=Aside0.mk (blk_below BTc.out hb);clear hct0 hct1;clear hb HXc BTc;obtain ⟨hct0,hct1⟩:=c2_ BTd)|((with_reducible refine gate_dst (N:=33) rfl ?_);refine Kd.R_lit (Kd.int .i64) _ 3 ?hg (N:=33) ?hd (xs:=([]:List Int)) (inner:=[]) (ok:=fun _=>True) (okp:=fun _=>True) ?hr ?hp (fun _ hk=>hk) trivial (Below.refl _ _) (Nat.le_refl _) (by simp) ?_;(case hd=>rfl);(case hg=>rfl);(case hr=>first|(go_simp;done)|(go_simp;rfl));(case hp=>exact (Reps.none _ _));intro v33 w5 ho hb hg_ hnew_;clear hg_ hnew_;have HM2:=Aside0.mk (HM.out.below hb HM.out.lt);have A5:=Aside0.mk (Kd.R_below A2.out hb);have HV:=Aside0.mk (Kd.R_lower ho HXd.out.size);clear ho A2 HM;have HXe:=Aside0.mk (below_step HXd.out hb);have BTe:=Aside0.mk (blk_below BTd.out hb);clear hct0 hct1;clear hb HXd BTd;obtain ⟨hct0,hct1⟩:=c2_ BTe));obtain ⟨Av0,cv0,ev0⟩:=Kd.R_slice HV.out;subst ev0
  go_loopg [4,13,36] k (fun kq v4 v13 v36 wr=>∃ (i:Int) (vals moves:List Int) (Am Av:Option Addr) (cm cv:Nat),v36 = .int .i64 i∧v4 = .slice Am moves.length cm∧v13 = .slice Av vals.length cv∧Aside0 (moves.length≤cm)∧Aside0 (Kd.C (Kd.int .i64) w Am moves.length moves)∧Aside0 (plF kq owns L a1_0 vals moves i=some R)∧Aside0 (kq≤k)∧Aside0 (Kd.R (Kd.int .i64) 3 wr w.heap.size (fun _=>True) (.slice Av vals.length cv) vals)∧Aside0 (IsMp Try.prog 9 3 Value.string (fun s=>s.size≤maxLen) wr mb L)∧Aside0 (Kd.R Kd.bool 4 wr w.heap.size (fun _=>True) (.slice Ao owns.length co) owns)∧Aside0 (wr.heap[gt]? = some (.cells #[.int .i64 a1_0,.string a1_1] 29 (0,0)))∧Aside0 (Below w.heap.size w wr))
  case atStart=>exact ⟨0,[],l4,A4,Av0,c4,cv0,rfl,rfl,rfl,HC4,HR4,HF,⟨Nat.le_refl _⟩,HV,HM2,A5,BTe,HXe⟩
  case round =>
   clear HF HV HM2 A5 BTe HXe hct0 hct1;obtain ⟨i,vals,moves,Am,Av,cm,cv,rfl,rfl,rfl,HCM,HRM,HA,HK1,HV,HM,HO,BT,HB⟩:=hrel
   cases gk with
      | zero=>exact absurd HA.out (by simp [plF])
      | succ k2 =>
    have H:=HA.out;clear HA;simp only [plF] at H
    by_cases c3:i < a1_0
    ·rw [if_pos c3] at H;have d3:decide (i < a1_0)=true:=decide_eq_true c3;clear c3
     by_cases c4:0≤i∧i < (owns.length:Int)∧vals.length < 17592186044416
     case neg=>rw [if_neg c4] at H;cases H
     rw [if_pos c4] at H;obtain ⟨c4,c5,c6⟩:=c4;have HL:=Aside0.mk c6;clear c6;obtain ⟨ad,e_,hxo⟩:=Kd.at_bool (Kd.R_reads' HO.out).2.2 i c4 c5;cases e_;have d4:decide (0≤i)=true:=decide_eq_true c4;have d5:decide (i < (owns.length:Int))=true:=decide_eq_true c5;replace c4:=eq_true c4;replace c5:=eq_true c5
     cases c7:rdOf false owns i with
          | true =>
      rw [c7] at hxo;rw [c7,if_pos rfl] at H;obtain ⟨key,hy,H⟩:=Option.bind_eq_some_iff.1 H
      by_cases c8:key.size≤maxLen
      case neg=>rw [if_neg c8] at H;cases H
      rw [if_pos c8] at H;have HY:=Aside0.mk hy;have HYS:=Aside0.mk c8;have H':=Aside0.mk H;clear hy c8 H;go_wp2_with (first|((with_reducible refine gate_callee (f:=98) rfl ?_);(try (refine gate_guard (by rfl) ?_;dsimp only));refine goesL_ (some 45) rfl rfl Try.func98 (by kernel_rfl) rfl #[.slice Av vals.length cv] rfl ml ?_;(with_reducible refine (impl_valsKey.calls k2 Av cv vals key _ (Kd.R_reads' HV.out).2.2 (Kd.R_reads' HV.out).2.1 HY.out).mono ?_);rintro e w7 ⟨rfl,hb⟩;refine ⟨_,rfl,?_⟩;have HVb:=Aside0.mk (Kd.R_below HV.out hb);have HBb:=Aside0.mk (below_step HB.out hb);have HMb:=Aside0.mk (HM.out.below hb HM.out.lt);have HOb:=Aside0.mk (Kd.R_below HO.out hb);have BTb:=Aside0.mk (blk_below BT.out hb);clear hb hxo)|(at_lookup;(try (refine gate_guard (by rfl) ?_;dsimp only));refine wpList_mget (κ:=ByteArray) (P:=Try.prog) (t:=90) (k:=9) (e:=3) (m:=L) rfl _ _ rfl ckCodec Try.underlying90 Try.underlying3 ckZero HMb.out rfl key rfl HYS.out ?_)|((with_reducible refine gate_builtin (b := .append) (xs:=#[.tmp 57,.tmp 59]) rfl ?_);(try (refine gate_guard (by rfl) ?_;dsimp only));at_builtin;refine Kd.R_append (Kd.int .i64) (w0:=w) w.heap.size rfl (.tmp 57) (.tmp 59) 33 3 (.int .i64 0) 8 rfl Try.underlying33 info3 rfl (by decide) (by decide) _ vals (mget L key) [.int .i64 (mget L key)] (fun _=>True) (fun _=>False) rfl rfl rfl (fun _ hk=>hk.elim) (fun _ _=>trivial) HVb.out HBb.out (below_size HBb.out) (by have:=HL.out;omega) ?_;intro v60 w9 ho hbx hg hat;have HVc:=Aside0.mk ho;have HMc:=Aside0.mk (HMb.out.kept hg (fun e_=>by obtain ⟨cs_,hc_⟩:=Kd.R_typed HVb.out mb e_.symm;exact HMb.out.ne hc_ rfl));have HOc:=Aside0.mk (Kd.R_over' HOb.out (Kd.R_typed HVb.out) (by decide) hg);have BTc:=Aside0.mk (blk_grown BTb.out hg (Kd.R_ne HVb.out BTb.out (by decide)));have HBc:=Aside0.mk hbx;clear ho hbx hg hat));obtain ⟨A9,c9,e9⟩:=Kd.R_slice HVc.out;subst e9;go_roundg k2
      case measure=>have:=HK1.out;omega
      case rel=>exact ⟨wrap64 (i + 1),vals ++ [mget L key],moves,Am,A9,cm,c9,rfl,(by first|rfl|rw [List.length_drop]),rfl,HCM,HRM,H',⟨by have:=HK1.out;omega⟩,HVc,HMc,HOc,BTc,HBc⟩
          | false =>
      rw [c7] at hxo;rw [c7,if_neg (by decide)] at H
      by_cases c8:0 < moves.length
      case neg =>
       rw [if_neg c8] at H;have H':=Aside0.mk H;have d8:decide (0 < moves.length)=false:=decide_eq_false c8;have d9:decide ((0:Int) < (moves.length:Int))=false:=decide_eq_false (by omega);clear H c8;go_wp2_with (first|((with_reducible refine gate_builtin (b := .append) (xs:=#[.tmp 57,.tmp 59]) rfl ?_);(try (refine gate_guard (by rfl) ?_;dsimp only));at_builtin;refine Kd.R_append (Kd.int .i64) (w0:=w) w.heap.size rfl (.tmp 57) (.tmp 59) 33 3 (.int .i64 0) 8 rfl Try.underlying33 info3 rfl (by decide) (by decide) _ vals 0 [.int .i64 0] (fun _=>True) (fun _=>False) rfl rfl rfl (fun _ hk=>hk.elim) (fun _ _=>trivial) HV.out HB.out (below_size HB.out) (by have:=HL.out;omega) ?_;intro v60 w9 ho hbx hg hat;have HVc:=Aside0.mk ho;have HMc:=Aside0.mk (HM.out.kept hg (fun e_=>by obtain ⟨cs_,hc_⟩:=Kd.R_typed HV.out mb e_.symm;exact HM.out.ne hc_ rfl));have HOc:=Aside0.mk (Kd.R_over' HO.out (Kd.R_typed HV.out) (by decide) hg);have BTc:=Aside0.mk (blk_grown BT.out hg (Kd.R_ne HV.out BT.out (by decide)));have HBc:=Aside0.mk hbx;clear ho hbx hg hat));obtain ⟨A9,c9,e9⟩:=Kd.R_slice HVc.out;subst e9;go_roundg k2
       case measure=>have:=HK1.out;omega
       case rel=>exact ⟨wrap64 (i + 1),vals ++ [0],moves,Am,A9,cm,c9,rfl,(by first|rfl|rw [List.length_drop]),rfl,HCM,HRM,H',⟨by have:=HK1.out;omega⟩,HVc,HMc,HOc,BTc,HBc⟩
      rw [if_pos c8] at H;have H':=Aside0.mk H;clear H;have d8:decide (0 < moves.length)=true:=decide_eq_true c8;have d9:decide ((0:Int) < (moves.length:Int))=true:=decide_eq_true (by omega)
      have q7:(1:Int)≤((moves.length:Int):Int):=by omega
      obtain ⟨i0,hi0,_,hsz,_⟩:=info_parts info3;have hcut:=cut_from (P:=Try.prog) 33 3 .i64 Try.underlying33 hi0 1 hsz Am moves.length cm 1 (by omega) q7;have hrd:=Kd.C_drop (m:=1) (c:=cm) HRM.out c8 HCM.out;obtain ⟨A7,hA7⟩:∃ A1,A1=(if cm=1 then Am else (Am:Option Addr).map (·.add (1 * 1))):=⟨_,rfl⟩;obtain ⟨c7_,hc7⟩:∃ c1,c1=cm - 1:=⟨_,rfl⟩;have hy7:(moves.drop 1).length=moves.length - 1:=List.length_drop;replace hrd:Kd.C (Kd.int .i64) w A7 (moves.drop 1).length (moves.drop 1):=(by rw [hA7];exact hrd);rw [show ((1:Int)).toNat=1 from rfl,← hy7,← hA7,← hc7] at hcut;have HRD:=Aside0.mk hrd;have HCD:=Aside0.mk (show (moves.drop 1).length≤c7_ from by rw [hy7,hc7];exact Nat.sub_le_sub_right HCM.out _);obtain ⟨am,e_,hxm⟩:=Kd.at_int HRM.out 0 (by omega) (by omega);cases e_;rw [show ((0:Int)).toNat=0 from rfl,Addr.add_zero'] at hxm;replace hxm:=ct HB hxm;clear hrd hi0 hsz hc7 hy7 hA7;replace q7:=eq_true q7;have q8:(1≤moves.length)=True:=eq_true c8;replace c8:=eq_true c8
      by_cases c9:rd moves 0=0
      ·have d10:(rd moves 0 != 0)=false:=bne_eq_false_iff_eq.2 c9;rw [if_pos c9] at H';clear c9;go_wp2_with (first|((with_reducible refine gate_callee (f:=99) rfl ?_);(try (refine gate_guard (by rfl) ?_;dsimp only));refine goesL_ (some 54) rfl rfl Try.func99 (by kernel_rfl) rfl #[.bool false] rfl ml ?_;(with_reducible refine (impl_bit.calls false 0 _ rfl).mono ?_);rintro e w7 ⟨rfl,hb0⟩;refine ⟨_,rfl,?_⟩;have hb:Below wr.heap.size wr w7:=(by first|exact hb0|(obtain ⟨nd,rfl⟩:=hb0;exact pw_below_drewN (Below.refl _ _) nd));have HVb:=Aside0.mk (Kd.R_below HV.out hb);have HBb:=Aside0.mk (below_step HB.out hb);have HMb:=Aside0.mk (HM.out.below hb HM.out.lt);have HOb:=Aside0.mk (Kd.R_below HO.out hb);have BTb:=Aside0.mk (blk_below BT.out hb);clear hb hb0 hxo hxm)|((with_reducible refine gate_builtin (b := .append) (xs:=#[.tmp 57,.tmp 59]) rfl ?_);(try (refine gate_guard (by rfl) ?_;dsimp only));at_builtin;refine Kd.R_append (Kd.int .i64) (w0:=w) w.heap.size rfl (.tmp 57) (.tmp 59) 33 3 (.int .i64 0) 8 rfl Try.underlying33 info3 rfl (by decide) (by decide) _ vals 0 [.int .i64 0] (fun _=>True) (fun _=>False) rfl rfl rfl (fun _ hk=>hk.elim) (fun _ _=>trivial) HVb.out HBb.out (below_size HBb.out) (by have:=HL.out;omega) ?_;intro v60 w9 ho hbx hg hat;have HVc:=Aside0.mk ho;have HMc:=Aside0.mk (HMb.out.kept hg (fun e_=>by obtain ⟨cs_,hc_⟩:=Kd.R_typed HVb.out mb e_.symm;exact HMb.out.ne hc_ rfl));have HOc:=Aside0.mk (Kd.R_over' HOb.out (Kd.R_typed HVb.out) (by decide) hg);have BTc:=Aside0.mk (blk_grown BTb.out hg (Kd.R_ne HVb.out BTb.out (by decide)));have HBc:=Aside0.mk hbx;clear ho hbx hg hat));obtain ⟨A9,c9,e9⟩:=Kd.R_slice HVc.out;subst e9;go_roundg k2
       case measure=>have:=HK1.out;omega
       case rel=>exact ⟨wrap64 (i + 1),vals ++ [0],moves.drop 1,A7,A9,c7_,c9,rfl,(by first|rfl|rw [List.length_drop]),rfl,HCD,HRD,H',⟨by have:=HK1.out;omega⟩,HVc,HMc,HOc,BTc,HBc⟩
      ·have d10:(rd moves 0 != 0)=true:=bne_iff_ne.2 c9;rw [if_neg c9] at H';clear c9;go_wp2_with (first|((with_reducible refine gate_callee (f:=99) rfl ?_);(try (refine gate_guard (by rfl) ?_;dsimp only));refine goesL_ (some 54) rfl rfl Try.func99 (by kernel_rfl) rfl #[.bool true] rfl ml ?_;(with_reducible refine (impl_bit.calls true 1 _ rfl).mono ?_);rintro e w7 ⟨rfl,hb0⟩;refine ⟨_,rfl,?_⟩;have hb:Below wr.heap.size wr w7:=(by first|exact hb0|(obtain ⟨nd,rfl⟩:=hb0;exact pw_below_drewN (Below.refl _ _) nd));have HVb:=Aside0.mk (Kd.R_below HV.out hb);have HBb:=Aside0.mk (below_step HB.out hb);have HMb:=Aside0.mk (HM.out.below hb HM.out.lt);have HOb:=Aside0.mk (Kd.R_below HO.out hb);have BTb:=Aside0.mk (blk_below BT.out hb);clear hb hb0 hxo hxm)|((with_reducible refine gate_builtin (b := .append) (xs:=#[.tmp 57,.tmp 59]) rfl ?_);(try (refine gate_guard (by rfl) ?_;dsimp only));at_builtin;refine Kd.R_append (Kd.int .i64) (w0:=w) w.heap.size rfl (.tmp 57) (.tmp 59) 33 3 (.int .i64 0) 8 rfl Try.underlying33 info3 rfl (by decide) (by decide) _ vals 1 [.int .i64 1] (fun _=>True) (fun _=>False) rfl rfl rfl (fun _ hk=>hk.elim) (fun _ _=>trivial) HVb.out HBb.out (below_size HBb.out) (by have:=HL.out;omega) ?_;intro v60 w9 ho hbx hg hat;have HVc:=Aside0.mk ho;have HMc:=Aside0.mk (HMb.out.kept hg (fun e_=>by obtain ⟨cs_,hc_⟩:=Kd.R_typed HVb.out mb e_.symm;exact HMb.out.ne hc_ rfl));have HOc:=Aside0.mk (Kd.R_over' HOb.out (Kd.R_typed HVb.out) (by decide) hg);have BTc:=Aside0.mk (blk_grown BTb.out hg (Kd.R_ne HVb.out BTb.out (by decide)));have HBc:=Aside0.mk hbx;clear ho hbx hg hat));obtain ⟨A9,c9,e9⟩:=Kd.R_slice HVc.out;subst e9;go_roundg k2
       case measure=>have:=HK1.out;omega
       case rel=>exact ⟨wrap64 (i + 1),vals ++ [1],moves.drop 1,A7,A9,c7_,c9,rfl,(by first|rfl|rw [List.length_drop]),rfl,HCD,HRD,H',⟨by have:=HK1.out;omega⟩,HVc,HMc,HOc,BTc,HBc⟩
    ·rw [if_neg c3] at H;obtain rfl:=os H;have d3:decide (i < a1_0)=false:=decide_eq_false c3;clear c3 H;obtain ⟨hct0,hct1⟩:=c2_ BT;go_wp2_with (first|((with_reducible refine gate_callee (f:=100) rfl ?_);(try (refine gate_guard (by rfl) ?_;dsimp only));refine goesL_ (some 64) rfl rfl Try.func100 (by kernel_rfl) rfl #[.agg #[.int .i64 a1_0,.string a1_1],.slice Av vals.length cv] rfl ml ?_;(with_reducible refine (impl_TableAt.calls k a1_0 a1_1 Av cv vals r _ (Kd.R_reads' HV.out).2.2 (Kd.R_reads' HV.out).2.1 HTA.out).mono ?_);rintro e w7 ⟨rfl,hb⟩;refine ⟨_,rfl,?_⟩;have HBe:=Aside0.mk (below_step HB.out hb);clear hb));go_ret;exact ⟨rfl,HBe.out⟩
 ·go_enter Try.func55,Try.ntmps55
  go_wp2_with (first|((with_reducible refine gate_dst (N:=6) rfl ?_);refine bx (N:=6) (cs:=#[.int .i64 a1_0,.string a1_1]) (t:=29) ?_;intro gt hg w1 hbox hb;have BTa:=Aside0.mk hbox;have HXa:=Aside0.mk hb;have GT:=Aside0.mk (show w.heap.size≤gt by rw [hg];exact Nat.le_refl _);obtain ⟨hct0,hct1⟩:=c2_ BTa;clear hg hbox hb)|((with_reducible refine gate_callee (f:=59) rfl ?_);(try (refine gate_guard (by rfl) ?_;dsimp only));refine goesL_ (some 18) rfl rfl Try.func59 (by kernel_rfl) rfl #[.slice A0 l0.length c0,.agg #[.int .i64 a1_0,.string a1_1]] rfl ml ?_;(with_reducible refine (impl_rowed.calls k A0 c0 l0 a1_0 a1_1 true _ (Kd.C_below HR0.out HXa.out) HC0.out HT.out).mono ?_);rintro e w2 ⟨rfl,hb⟩;refine ⟨_,rfl,?_⟩;have HXb:=Aside0.mk (below_step HXa.out hb);have BTb:=Aside0.mk (blk_below BTa.out hb);clear hct0 hct1;clear hb HXa BTa;obtain ⟨hct0,hct1⟩:=c2_ BTb)|((with_reducible refine gate_callee (f:=90) rfl ?_);(try (refine gate_guard (by rfl) ?_;dsimp only));refine goesL_ (some 30) rfl rfl Try.func90 (by kernel_rfl) rfl #[.slice A0 l0.length c0,.int .i64 1] rfl ml ?_;(with_reducible refine (impl_Owner.calls k A0 c0 l0 1 owns _ (Kd.C_below HR0.out HXb.out) HC0.out HW.out).mono ?_);rintro e w3 ⟨v_,rfl,ho,hb⟩;refine ⟨_,rfl,?_⟩;have HO:=Aside0.mk (Kd.R_lower ho HXb.out.size);clear ho;have HXc:=Aside0.mk (below_step HXb.out hb);have BTc:=Aside0.mk (blk_below BTb.out hb);clear hct0 hct1;clear hb HXb BTb;obtain ⟨hct0,hct1⟩:=c2_ BTc;obtain ⟨Ao,co,eo⟩:=Kd.R_slice HO.out;subst eo)|((with_reducible refine gate_callee (f:=96) rfl ?_);(try (refine gate_guard (by rfl) ?_;dsimp only));refine goesL_ (some 32) rfl rfl Try.func96 (by kernel_rfl) rfl #[.slice A3 l3.length c3] rfl ml ?_;(with_reducible refine (picksOf.calls k A3 c3 l3 L _ (Kd.C_below HR3.out HXc.out) HC3.out HP.out).mono ?_);rintro e w4 ⟨mb,rfl,hm,hmg,hb⟩;refine ⟨_,rfl,?_⟩;have HM:=Aside0.mk hm;have MG:=Aside0.mk hmg;have A2:=Aside0.mk (Kd.R_below HO.out hb);clear hm hmg HO;have HXd:=Aside0.mk (below_step HXc.out hb);have BTd:=Aside0.mk (blk_below BTc.out hb);clear hct0 hct1;clear hb HXc BTc;obtain ⟨hct0,hct1⟩:=c2_ BTd)|((with_reducible refine gate_dst (N:=33) rfl ?_);refine Kd.R_lit (Kd.int .i64) _ 3 ?hg (N:=33) ?hd (xs:=([]:List Int)) (inner:=[]) (ok:=fun _=>True) (okp:=fun _=>True) ?hr ?hp (fun _ hk=>hk) trivial (Below.refl _ _) (Nat.le_refl _) (by simp) ?_;(case hd=>rfl);(case hg=>rfl);(case hr=>first|(go_simp;done)|(go_simp;rfl));(case hp=>exact (Reps.none _ _));intro v33 w5 ho hb hg_ hnew_;clear hg_ hnew_;have HM2:=Aside0.mk (HM.out.below hb HM.out.lt);have A5:=Aside0.mk (Kd.R_below A2.out hb);have HV:=Aside0.mk (Kd.R_lower ho HXd.out.size);clear ho A2 HM;have HXe:=Aside0.mk (below_step HXd.out hb);have BTe:=Aside0.mk (blk_below BTd.out hb);clear hct0 hct1;clear hb HXd BTd;obtain ⟨hct0,hct1⟩:=c2_ BTe));obtain ⟨Av0,cv0,ev0⟩:=Kd.R_slice HV.out;subst ev0
  go_loopg [4,13,36] k (fun kq v4 v13 v36 wr=>∃ (i:Int) (vals moves:List Int) (Am Av:Option Addr) (cm cv:Nat),v36 = .int .i64 i∧v4 = .slice Am moves.length cm∧v13 = .slice Av vals.length cv∧Aside0 (moves.length≤cm)∧Aside0 (Kd.C (Kd.int .i64) w Am moves.length moves)∧Aside0 (plF kq owns L a1_0 vals moves i=some R)∧Aside0 (kq≤k)∧Aside0 (Kd.R (Kd.int .i64) 3 wr w.heap.size (fun _=>True) (.slice Av vals.length cv) vals)∧Aside0 (IsMp Try.prog 9 3 Value.string (fun s=>s.size≤maxLen) wr mb L)∧Aside0 (Kd.R Kd.bool 4 wr w.heap.size (fun _=>True) (.slice Ao owns.length co) owns)∧Aside0 (wr.heap[gt]? = some (.cells #[.int .i64 a1_0,.string a1_1] 29 (0,0)))∧Aside0 (Below w.heap.size w wr))
  case atStart=>exact ⟨0,[],l4,A4,Av0,c4,cv0,rfl,rfl,rfl,HC4,HR4,HF,⟨Nat.le_refl _⟩,HV,HM2,A5,BTe,HXe⟩
  case round =>
   clear HF HV HM2 A5 BTe HXe hct0 hct1;obtain ⟨i,vals,moves,Am,Av,cm,cv,rfl,rfl,rfl,HCM,HRM,HA,HK1,HV,HM,HO,BT,HB⟩:=hrel
   cases gk with
      | zero=>exact absurd HA.out (by simp [plF])
      | succ k2 =>
    have H:=HA.out;clear HA;simp only [plF] at H
    by_cases c3:i < a1_0
    ·rw [if_pos c3] at H;have d3:decide (i < a1_0)=true:=decide_eq_true c3;clear c3
     by_cases c4:0≤i∧i < (owns.length:Int)∧vals.length < 17592186044416
     case neg=>rw [if_neg c4] at H;cases H
     rw [if_pos c4] at H;obtain ⟨c4,c5,c6⟩:=c4;have HL:=Aside0.mk c6;clear c6;obtain ⟨ad,e_,hxo⟩:=Kd.at_bool (Kd.R_reads' HO.out).2.2 i c4 c5;cases e_;have d4:decide (0≤i)=true:=decide_eq_true c4;have d5:decide (i < (owns.length:Int))=true:=decide_eq_true c5;replace c4:=eq_true c4;replace c5:=eq_true c5
     cases c7:rdOf false owns i with
          | true =>
      rw [c7] at hxo;rw [c7,if_pos rfl] at H;obtain ⟨key,hy,H⟩:=Option.bind_eq_some_iff.1 H
      by_cases c8:key.size≤maxLen
      case neg=>rw [if_neg c8] at H;cases H
      rw [if_pos c8] at H;have HY:=Aside0.mk hy;have HYS:=Aside0.mk c8;have H':=Aside0.mk H;clear hy c8 H;go_wp2_with (first|((with_reducible refine gate_callee (f:=98) rfl ?_);(try (refine gate_guard (by rfl) ?_;dsimp only));refine goesL_ (some 45) rfl rfl Try.func98 (by kernel_rfl) rfl #[.slice Av vals.length cv] rfl ml ?_;(with_reducible refine (impl_valsKey.calls k2 Av cv vals key _ (Kd.R_reads' HV.out).2.2 (Kd.R_reads' HV.out).2.1 HY.out).mono ?_);rintro e w7 ⟨rfl,hb⟩;refine ⟨_,rfl,?_⟩;have HVb:=Aside0.mk (Kd.R_below HV.out hb);have HBb:=Aside0.mk (below_step HB.out hb);have HMb:=Aside0.mk (HM.out.below hb HM.out.lt);have HOb:=Aside0.mk (Kd.R_below HO.out hb);have BTb:=Aside0.mk (blk_below BT.out hb);clear hb hxo)|(at_lookup;(try (refine gate_guard (by rfl) ?_;dsimp only));refine wpList_mget (κ:=ByteArray) (P:=Try.prog) (t:=90) (k:=9) (e:=3) (m:=L) rfl _ _ rfl ckCodec Try.underlying90 Try.underlying3 ckZero HMb.out rfl key rfl HYS.out ?_)|((with_reducible refine gate_builtin (b := .append) (xs:=#[.tmp 57,.tmp 59]) rfl ?_);(try (refine gate_guard (by rfl) ?_;dsimp only));at_builtin;refine Kd.R_append (Kd.int .i64) (w0:=w) w.heap.size rfl (.tmp 57) (.tmp 59) 33 3 (.int .i64 0) 8 rfl Try.underlying33 info3 rfl (by decide) (by decide) _ vals (mget L key) [.int .i64 (mget L key)] (fun _=>True) (fun _=>False) rfl rfl rfl (fun _ hk=>hk.elim) (fun _ _=>trivial) HVb.out HBb.out (below_size HBb.out) (by have:=HL.out;omega) ?_;intro v60 w9 ho hbx hg hat;have HVc:=Aside0.mk ho;have HMc:=Aside0.mk (HMb.out.kept hg (fun e_=>by obtain ⟨cs_,hc_⟩:=Kd.R_typed HVb.out mb e_.symm;exact HMb.out.ne hc_ rfl));have HOc:=Aside0.mk (Kd.R_over' HOb.out (Kd.R_typed HVb.out) (by decide) hg);have BTc:=Aside0.mk (blk_grown BTb.out hg (Kd.R_ne HVb.out BTb.out (by decide)));have HBc:=Aside0.mk hbx;clear ho hbx hg hat));obtain ⟨A9,c9,e9⟩:=Kd.R_slice HVc.out;subst e9;go_roundg k2
      case measure=>have:=HK1.out;omega
      case rel=>exact ⟨wrap64 (i + 1),vals ++ [mget L key],moves,Am,A9,cm,c9,rfl,(by first|rfl|rw [List.length_drop]),rfl,HCM,HRM,H',⟨by have:=HK1.out;omega⟩,HVc,HMc,HOc,BTc,HBc⟩
          | false =>
      rw [c7] at hxo;rw [c7,if_neg (by decide)] at H
      by_cases c8:0 < moves.length
      case neg =>
       rw [if_neg c8] at H;have H':=Aside0.mk H;have d8:decide (0 < moves.length)=false:=decide_eq_false c8;have d9:decide ((0:Int) < (moves.length:Int))=false:=decide_eq_false (by omega);clear H c8;go_wp2_with (first|((with_reducible refine gate_builtin (b := .append) (xs:=#[.tmp 57,.tmp 59]) rfl ?_);(try (refine gate_guard (by rfl) ?_;dsimp only));at_builtin;refine Kd.R_append (Kd.int .i64) (w0:=w) w.heap.size rfl (.tmp 57) (.tmp 59) 33 3 (.int .i64 0) 8 rfl Try.underlying33 info3 rfl (by decide) (by decide) _ vals 0 [.int .i64 0] (fun _=>True) (fun _=>False) rfl rfl rfl (fun _ hk=>hk.elim) (fun _ _=>trivial) HV.out HB.out (below_size HB.out) (by have:=HL.out;omega) ?_;intro v60 w9 ho hbx hg hat;have HVc:=Aside0.mk ho;have HMc:=Aside0.mk (HM.out.kept hg (fun e_=>by obtain ⟨cs_,hc_⟩:=Kd.R_typed HV.out mb e_.symm;exact HM.out.ne hc_ rfl));have HOc:=Aside0.mk (Kd.R_over' HO.out (Kd.R_typed HV.out) (by decide) hg);have BTc:=Aside0.mk (blk_grown BT.out hg (Kd.R_ne HV.out BT.out (by decide)));have HBc:=Aside0.mk hbx;clear ho hbx hg hat));obtain ⟨A9,c9,e9⟩:=Kd.R_slice HVc.out;subst e9;go_roundg k2
       case measure=>have:=HK1.out;omega
       case rel=>exact ⟨wrap64 (i + 1),vals ++ [0],moves,Am,A9,cm,c9,rfl,(by first|rfl|rw [List.length_drop]),rfl,HCM,HRM,H',⟨by have:=HK1.out;omega⟩,HVc,HMc,HOc,BTc,HBc⟩
      rw [if_pos c8] at H;have H':=Aside0.mk H;clear H;have d8:decide (0 < moves.length)=true:=decide_eq_true c8;have d9:decide ((0:Int) < (moves.length:Int))=true:=decide_eq_true (by omega)
      have q7:(1:Int)≤((moves.length:Int):Int):=by omega
      obtain ⟨i0,hi0,_,hsz,_⟩:=info_parts info3;have hcut:=cut_from (P:=Try.prog) 33 3 .i64 Try.underlying33 hi0 1 hsz Am moves.length cm 1 (by omega) q7;have hrd:=Kd.C_drop (m:=1) (c:=cm) HRM.out c8 HCM.out;obtain ⟨A7,hA7⟩:∃ A1,A1=(if cm=1 then Am else (Am:Option Addr).map (·.add (1 * 1))):=⟨_,rfl⟩;obtain ⟨c7_,hc7⟩:∃ c1,c1=cm - 1:=⟨_,rfl⟩;have hy7:(moves.drop 1).length=moves.length - 1:=List.length_drop;replace hrd:Kd.C (Kd.int .i64) w A7 (moves.drop 1).length (moves.drop 1):=(by rw [hA7];exact hrd);rw [show ((1:Int)).toNat=1 from rfl,← hy7,← hA7,← hc7] at hcut;have HRD:=Aside0.mk hrd;have HCD:=Aside0.mk (show (moves.drop 1).length≤c7_ from by rw [hy7,hc7];exact Nat.sub_le_sub_right HCM.out _);obtain ⟨am,e_,hxm⟩:=Kd.at_int HRM.out 0 (by omega) (by omega);cases e_;rw [show ((0:Int)).toNat=0 from rfl,Addr.add_zero'] at hxm;replace hxm:=ct HB hxm;clear hrd hi0 hsz hc7 hy7 hA7;replace q7:=eq_true q7;have q8:(1≤moves.length)=True:=eq_true c8;replace c8:=eq_true c8
      by_cases c9:rd moves 0=0
      ·have d10:(rd moves 0 != 0)=false:=bne_eq_false_iff_eq.2 c9;rw [if_pos c9] at H';clear c9;go_wp2_with (first|((with_reducible refine gate_callee (f:=99) rfl ?_);(try (refine gate_guard (by rfl) ?_;dsimp only));refine goesL_ (some 54) rfl rfl Try.func99 (by kernel_rfl) rfl #[.bool false] rfl ml ?_;(with_reducible refine (impl_bit.calls false 0 _ rfl).mono ?_);rintro e w7 ⟨rfl,hb0⟩;refine ⟨_,rfl,?_⟩;have hb:Below wr.heap.size wr w7:=(by first|exact hb0|(obtain ⟨nd,rfl⟩:=hb0;exact pw_below_drewN (Below.refl _ _) nd));have HVb:=Aside0.mk (Kd.R_below HV.out hb);have HBb:=Aside0.mk (below_step HB.out hb);have HMb:=Aside0.mk (HM.out.below hb HM.out.lt);have HOb:=Aside0.mk (Kd.R_below HO.out hb);have BTb:=Aside0.mk (blk_below BT.out hb);clear hb hb0 hxo hxm)|((with_reducible refine gate_builtin (b := .append) (xs:=#[.tmp 57,.tmp 59]) rfl ?_);(try (refine gate_guard (by rfl) ?_;dsimp only));at_builtin;refine Kd.R_append (Kd.int .i64) (w0:=w) w.heap.size rfl (.tmp 57) (.tmp 59) 33 3 (.int .i64 0) 8 rfl Try.underlying33 info3 rfl (by decide) (by decide) _ vals 0 [.int .i64 0] (fun _=>True) (fun _=>False) rfl rfl rfl (fun _ hk=>hk.elim) (fun _ _=>trivial) HVb.out HBb.out (below_size HBb.out) (by have:=HL.out;omega) ?_;intro v60 w9 ho hbx hg hat;have HVc:=Aside0.mk ho;have HMc:=Aside0.mk (HMb.out.kept hg (fun e_=>by obtain ⟨cs_,hc_⟩:=Kd.R_typed HVb.out mb e_.symm;exact HMb.out.ne hc_ rfl));have HOc:=Aside0.mk (Kd.R_over' HOb.out (Kd.R_typed HVb.out) (by decide) hg);have BTc:=Aside0.mk (blk_grown BTb.out hg (Kd.R_ne HVb.out BTb.out (by decide)));have HBc:=Aside0.mk hbx;clear ho hbx hg hat));obtain ⟨A9,c9,e9⟩:=Kd.R_slice HVc.out;subst e9;go_roundg k2
       case measure=>have:=HK1.out;omega
       case rel=>exact ⟨wrap64 (i + 1),vals ++ [0],moves.drop 1,A7,A9,c7_,c9,rfl,(by first|rfl|rw [List.length_drop]),rfl,HCD,HRD,H',⟨by have:=HK1.out;omega⟩,HVc,HMc,HOc,BTc,HBc⟩
      ·have d10:(rd moves 0 != 0)=true:=bne_iff_ne.2 c9;rw [if_neg c9] at H';clear c9;go_wp2_with (first|((with_reducible refine gate_callee (f:=99) rfl ?_);(try (refine gate_guard (by rfl) ?_;dsimp only));refine goesL_ (some 54) rfl rfl Try.func99 (by kernel_rfl) rfl #[.bool true] rfl ml ?_;(with_reducible refine (impl_bit.calls true 1 _ rfl).mono ?_);rintro e w7 ⟨rfl,hb0⟩;refine ⟨_,rfl,?_⟩;have hb:Below wr.heap.size wr w7:=(by first|exact hb0|(obtain ⟨nd,rfl⟩:=hb0;exact pw_below_drewN (Below.refl _ _) nd));have HVb:=Aside0.mk (Kd.R_below HV.out hb);have HBb:=Aside0.mk (below_step HB.out hb);have HMb:=Aside0.mk (HM.out.below hb HM.out.lt);have HOb:=Aside0.mk (Kd.R_below HO.out hb);have BTb:=Aside0.mk (blk_below BT.out hb);clear hb hb0 hxo hxm)|((with_reducible refine gate_builtin (b := .append) (xs:=#[.tmp 57,.tmp 59]) rfl ?_);(try (refine gate_guard (by rfl) ?_;dsimp only));at_builtin;refine Kd.R_append (Kd.int .i64) (w0:=w) w.heap.size rfl (.tmp 57) (.tmp 59) 33 3 (.int .i64 0) 8 rfl Try.underlying33 info3 rfl (by decide) (by decide) _ vals 1 [.int .i64 1] (fun _=>True) (fun _=>False) rfl rfl rfl (fun _ hk=>hk.elim) (fun _ _=>trivial) HVb.out HBb.out (below_size HBb.out) (by have:=HL.out;omega) ?_;intro v60 w9 ho hbx hg hat;have HVc:=Aside0.mk ho;have HMc:=Aside0.mk (HMb.out.kept hg (fun e_=>by obtain ⟨cs_,hc_⟩:=Kd.R_typed HVb.out mb e_.symm;exact HMb.out.ne hc_ rfl));have HOc:=Aside0.mk (Kd.R_over' HOb.out (Kd.R_typed HVb.out) (by decide) hg);have BTc:=Aside0.mk (blk_grown BTb.out hg (Kd.R_ne HVb.out BTb.out (by decide)));have HBc:=Aside0.mk hbx;clear ho hbx hg hat));obtain ⟨A9,c9,e9⟩:=Kd.R_slice HVc.out;subst e9;go_roundg k2
       case measure=>have:=HK1.out;omega
       case rel=>exact ⟨wrap64 (i + 1),vals ++ [1],moves.drop 1,A7,A9,c7_,c9,rfl,(by first|rfl|rw [List.length_drop]),rfl,HCD,HRD,H',⟨by have:=HK1.out;omega⟩,HVc,HMc,HOc,BTc,HBc⟩
    ·rw [if_neg c3] at H;obtain rfl:=os H;have d3:decide (i < a1_0)=false:=decide_eq_false c3;clear c3 H;obtain ⟨hct0,hct1⟩:=c2_ BT;go_wp2_with (first|((with_reducible refine gate_callee (f:=100) rfl ?_);(try (refine gate_guard (by rfl) ?_;dsimp only));refine goesL_ (some 64) rfl rfl Try.func100 (by kernel_rfl) rfl #[.agg #[.int .i64 a1_0,.string a1_1],.slice Av vals.length cv] rfl ml ?_;(with_reducible refine (impl_TableAt.calls k a1_0 a1_1 Av cv vals r _ (Kd.R_reads' HV.out).2.2 (Kd.R_reads' HV.out).2.1 HTA.out).mono ?_);rintro e w7 ⟨rfl,hb⟩;refine ⟨_,rfl,?_⟩;have HBe:=Aside0.mk (below_step HB.out hb);clear hb));go_ret;exact ⟨rfl,HBe.out⟩
end Go.Proofs.Ytlpfmhikahlcoaa.G
namespace Go.Proofs.Ytlpfmhikahlcoaa.G
open Go.Proofs.Ytlpfmhikahlcoaa.Sh Go.RowKit Go.Proofs.YtlpfmhikahlcoaaW.PrintWords Go.Proofs.YtlpfmhikahlcoaaW.PrintLast Go.Proofs.YtlpfmhikahlcoaaW.PrintMore
attribute [local go_sem] max2_int min2_int max_two min_two max_three min_three max_four min_four
set_option linter.unusedVariables false
set_option linter.unusedSimpArgs false
def impl_decide.f:Nat→List Bool→Int→ByteArray→Option (Int)
 | 0,_,_,_=>none
 | k + 1,l0,a1_0,a1_1=>(impl_Table_known.f a1_0 a1_1).bind fun A6=>(if A6 ≥ 0 then (some A6) else (if 1≤(l0.length:Int) then ((impl_Table_half.f a1_0 a1_1 0).bind fun bt104=>((impl_decide.f k (l0.drop 1) bt104.1 bt104.2).bind fun A4=>(if 0 < (l0.length:Int) then (if ((rdOf false l0 0) == (A4 == 0))=true then (some A4) else ((impl_Table_half.f a1_0 a1_1 1).bind fun bt109=>((impl_decide.f k (l0.drop 1) bt109.1 bt109.2).bind fun A7=>(some A7)))) else (none)))) else (none)))
set_option maxHeartbeats 80000000 in
set_option maxRecDepth 100000 in
theorem impl_decide.calls (k:Nat):∀ (A0:Option Addr) (c0:Nat) (l0:List Bool) (a1_0:Int) (a1_1:ByteArray) (r:Int) (w:World) (hr0:Kd.C Kd.bool w A0 l0.length l0) (hc0:l0.length≤c0) (h:impl_decide.f k l0 a1_0 a1_1=some r),
  Calls Try.prog 60 #[.slice A0 l0.length c0,.agg #[.int .i64 a1_0,.string a1_1]] w fun e w'=>e = .returned (.int .i64 r)∧Below w.heap.size w w':=by
 induction k using Nat.strongRecOn with
  | _ k ih =>
 intro A0 c0 l0 a1_0 a1_1 r w hr0 hc0 h
 cases k with
  | zero=>exact absurd h (by simp [impl_decide.f])
  | succ k =>
 simp only [impl_decide.f] at h;have hu29:=Try.underlying29;have HR0:=Aside0.mk hr0;have HC0:=Aside0.mk hc0;clear hr0 hc0;have HB:=Aside0.mk (Below.refl w.heap.size w);have H:((impl_Table_known.f a1_0 a1_1).bind fun A6=>(if A6 ≥ 0 then (some A6) else (if 1≤(l0.length:Int) then ((impl_Table_half.f a1_0 a1_1 0).bind fun bt104=>((impl_decide.f k (l0.drop 1) bt104.1 bt104.2).bind fun A4=>(if 0 < (l0.length:Int) then (if ((rdOf false l0 0) == (A4 == 0))=true then (some A4) else ((impl_Table_half.f a1_0 a1_1 1).bind fun bt109=>((impl_decide.f k (l0.drop 1) bt109.1 bt109.2).bind fun A7=>(some A7)))) else (none)))) else (none))))=some r:=h;clear h;replace H:=ob H;obtain ⟨A6,A30,H⟩:=H
 try dsimp only at H
 have A3:=Aside0.mk A30;clear A30
 by_cases c4:A6 ≥ 0
 ·rw [if_pos c4] at H;have c4b0:decide (0≤A6)=true:=decide_eq_true c4;clear c4;obtain rfl:=os H
  go_enter Try.func60,Try.ntmps60
  go_wp2_with (first|((with_reducible refine gate_dst (N:=3) rfl ?_);refine bx (N:=3) (cs:=#[.int .i64 a1_0,.string a1_1]) (t:=29) ?_;intro A5 hg w5 hbox hb;have A1:=Aside0.mk (hbox);have Ad:=bz0 hg HB;have A2:=bz0 hg HB;replace HB:=bs0 HB hb;clear hb hbox hg;have hcz6__:=c2_ A1;have hfz6__:=f_ A1)|((with_reducible refine gate_callee (f:=107) rfl ?_);refine goesL_ (some 8) rfl rfl Try.func107 (by kernel_rfl) rfl #[.agg #[.int .i64 a1_0,.string a1_1]] rfl ml ?_;(with_reducible refine (impl_Table_known.calls a1_0 a1_1 A6 _ A3.out).mono ?_);rintro e w7 ⟨rfl,hb⟩;refine ⟨_,rfl,?_⟩;replace A1:=bb A1 hb;replace HB:=bs1 HB hb A2;(try clear hb);(try clear hb2);(try clear hk);(try clear hi)));go_ret;exact ⟨er,tb HB⟩
 ·rw [if_neg c4] at H;have c4b0:decide (0≤A6)=false:=decide_eq_false c4;clear c4
  by_cases c8:1≤(l0.length:Int)
  ·rw [if_pos c8] at H;have c8b0:=eq_true c8;have c8b1:decide (1≤(l0.length:Int))=true:=decide_eq_true c8;clear c8;replace H:=ob H;obtain ⟨⟨A8,Aa⟩,A90,H⟩:=H
   try dsimp only at H
   have A9:=Aside0.mk A90;clear A90;replace H:=ob H;obtain ⟨A4,A100,H⟩:=H
   try dsimp only at H
   have A10:=Aside0.mk A100;clear A100
   by_cases c11:0 < (l0.length:Int)
   ·rw [if_pos c11] at H;have c11b0:decide (0 < (l0.length:Int))=true:=decide_eq_true c11;have c11b1:decide (0 < l0.length)=true:=decide_eq_true (by omega);clear c11
    by_cases c12:((rdOf false l0 0) == (A4 == 0))=true
    ·rw [if_pos c12] at H;have c12b0:((rdOf false l0 0) == (A4 == 0))=true:=c12
     (try (have c12b1:decide ((rdOf false l0 0)=(A4 == 0))=true:=by simpa using c12))
     (try (have c12b2:((rdOf false l0 0) == (A4 == 0))=true:=by simpa using c12))
     clear c12;obtain rfl:=os H
     go_enter Try.func60,Try.ntmps60
     try go_wp2_with (first|((with_reducible refine gate_dst (N:=3) rfl ?_);refine bx (N:=3) (cs:=#[.int .i64 a1_0,.string a1_1]) (t:=29) ?_;intro A5 hg w13 hbox hb;have A1:=Aside0.mk (hbox);have Ad:=bz0 hg HB;have A2:=bz0 hg HB;replace HB:=bs0 HB hb;clear hb hbox hg;have hcz14__:=c2_ A1;have hfz14__:=f_ A1)|((with_reducible refine gate_callee (f:=107) rfl ?_);refine goesL_ (some 8) rfl rfl Try.func107 (by kernel_rfl) rfl #[.agg #[.int .i64 a1_0,.string a1_1]] rfl ml ?_;(with_reducible refine (impl_Table_known.calls a1_0 a1_1 A6 _ A3.out).mono ?_);rintro e w15 ⟨rfl,hb⟩;refine ⟨_,rfl,?_⟩;replace A1:=bb A1 hb;replace HB:=bs1 HB hb A2;(try clear hb);(try clear hb2);(try clear hk);(try clear hi)))
     replace A1:=Aside0.mk (blk_drew A1.out);replace HB:=Aside0.mk (below_drew1 HB.out);obtain ⟨i017,hi017,_,hsz17,_⟩:=info_parts info4;obtain ⟨A17,hcut17,hA17,hC17⟩:=print_drop_of (P:=Try.prog) Value.bool false 22 4 .i64 Try.underlying22 hi017 hsz17 A0 c0 l0 1 (by omega) (od) HC0.out;have HR103:=Aside0.mk (Kd.C_of_reads (h1:=fun _=>rfl) (hA17 _ (Kd.reads_of_C HR0.out)));have HC103:=Aside0.mk hC17;clear hA17 hC17 hi017 hsz17;refine start_ (n:=6) (S:=fun w'=>w'.cell? ⟨A5,0,none⟩=some (.int .i64 a1_0)∧w'.cell? ⟨A5,1,none⟩=some (.string a1_1)) (ds:=[]) (tf 0 6) (by kernel_rfl) rfl rfl ⟨(blk_cell A1.out 0).trans rfl,(blk_cell A1.out 1).trans rfl⟩ (fun hHeld=>?_);generalize w15.drew=w16 at A1 HB HR103 hHeld ⊢;refine pure_ (i:=0) (N:=some 12) (v:=?_) (a':=?_) (tf 1 5) rfl rfl (by kernel_rfl) (fun _ _ _ h=>h) (Or.inl ⟨by rfl,?_⟩) ?_ ?_;rotate_left
     ·intro w';go_simp;with_reducible rfl
     rotate_left
     ·simp only [Act.put,s1,s2,s3,i64_w,i32_w];rfl
     refine pure_ (i:=1) (N:=some 13) (v:=?_) (a':=?_) (tf 2 4) rfl rfl (by kernel_rfl) (fun _ _ _ h=>h) (Or.inl ⟨by rfl,?_⟩) ?_ ?_;rotate_left
     ·intro w';go_simp;with_reducible rfl
     rotate_left
     ·simp only [Act.put,s1,s2,s3,i64_w,i32_w];rfl
     refine take_ (i:=2) (N:=some 14) (v:=?_) (a':=?_) (tf 3 3) rfl rfl (by kernel_rfl) (fun _ _ _ h=>h) (Or.inl ⟨by rfl,?_⟩) hHeld ?_ ?_;rotate_left
     ·rintro w' ⟨s0,s1⟩;go_simp;with_reducible rfl
     rotate_left
     ·simp only [Act.put,s1,s2,s3,i64_w,i32_w];rfl
     refine one_ (i:=3) (N:=some 15) (tf 4 2) rfl rfl (by kernel_rfl) (by decide) (fun K hK=>?_);refine goes_ Try.func108 (by kernel_rfl) rfl #[.agg #[.int .i64 a1_0,.string a1_1],.int .i64 0] (by rfl) rfl rfl ml ?_
     with_reducible refine (impl_Table_half.calls a1_0 a1_1 0 A8 Aa _ A9.out).mono ?_
     rintro e w18 ⟨rfl,hb⟩;refine ⟨_,rfl,?_⟩;replace A1:=bb A1 hb;replace HB:=bs1 HB hb A2;(try clear hb);(try clear hb2);(try clear hk);(try clear hi);refine hK.out _ _ ⟨(blk_cell A1.out 0).trans rfl,(blk_cell A1.out 1).trans rfl⟩ (fun hHeld=>?_);clear hK K;refine norm_ (a':=?_) ?_ ?_;rotate_left
     ·show Act.put _ (some 15) _=_
      simp only [Act.put,s1,s2,s3,i64_w,i32_w];rfl
     refine one_ (i:=4) (N:=some 16) (tf 5 1) rfl rfl (by kernel_rfl) (by decide) (fun K hK=>?_);refine goes_ Try.func60 (by kernel_rfl) rfl #[.slice A17 (l0.drop 1).length (c0 - 1),.agg #[.int .i64 A8,.string Aa]] (by rfl) rfl rfl (by (try simp only [List.map_toArray,List.map_cons,List.map_nil]);first|done|(rw [show (l0.drop 1).length=(l0.length - 1) from List.length_drop] <;> rfl)|rfl|(simp only [List.length_drop,List.length_take];rfl)) ?_
     with_reducible refine (ih k (by omega) _ _ (l0.drop 1) A8 Aa A4 _ ?side1 ?side2 A10.out).mono ?_
     (case side1=>exact cw (Kd.C_below HR103.out HB.out))
     (case side2=>exact HC103.out)
     rintro e w19 ⟨rfl,hb⟩;refine ⟨_,rfl,?_⟩;replace A1:=bb A1 hb;replace HB:=bs1 HB hb A2;(try clear hb);(try clear hb2);(try clear hk);(try clear hi);refine hK.out _ _ ⟨(blk_cell A1.out 0).trans rfl,(blk_cell A1.out 1).trans rfl⟩ (fun hHeld=>?_);clear hK K;refine norm_ (a':=?_) ?_ ?_;rotate_left
     ·show Act.put _ (some 16) _=_
      simp only [Act.put,s1,s2,s3,i64_w,i32_w];rfl
     refine pure_ (i:=5) (N:=some 6) (v:=?_) (a':=?_) (tf 6 0) rfl rfl (by kernel_rfl) (fun _ _ _ h=>h) (Or.inl ⟨by rfl,?_⟩) ?_ ?_;rotate_left
     ·intro w';go_simp;with_reducible rfl
     rotate_left
     ·simp only [Act.put,s1,s2,s3,i64_w,i32_w];rfl
     refine done_ (by kernel_rfl) ?_;have p107:0≤(0:Int):=(by omega);have q107:0 < (l0.length:Int):=od;obtain ⟨ad107,e107,hx107_0⟩:=Kd.at_bool HR0.out 0 p107 q107;cases e107;have qi107:(0 < l0.length)=True:=eq_true (by omega)
     (try rw [show ((0:Int)).toNat=0 from rfl] at hx107_0)
     (try rw [Addr.add_zero'] at hx107_0)
     replace hx107_0:=ct HB hx107_0;replace p107:=eq_true p107;replace q107:=eq_true q107
     try go_wp2
     go_ret;exact ⟨by first|exact er|(simp [errW_none,errW_some,show ¬ l0=[] from by intro h_;rw [h_] at c11b0;simp at c11b0];done)|(simp [*,show ¬ l0=[] from by intro h_;rw [h_] at c11b0;simp at c11b0];done)|(simp [errW_none,errW_some,show ¬ l0=[] from by intro h_;rw [h_] at c11b0;simp at c11b0] <;> rfl),tb HB⟩
    ·rw [if_neg c12] at H
     have c12b0:((rdOf false l0 0) == (A4 == 0))=false:=by simpa using c12
     (try (have c12b1:decide ((rdOf false l0 0)=(A4 == 0))=false:=by simpa using c12))
     (try (have c12b2:((rdOf false l0 0) == (A4 == 0))=false:=by simpa using c12))
     (try (have c12b3:¬ ((rdOf false l0 0)=(A4 == 0)):=by simpa using c12))
     clear c12;have c20b0:=eq_true (od:1≤(l0.length:Int));replace H:=ob H;obtain ⟨⟨Ab,Ac⟩,A210,H⟩:=H;replace H:((impl_decide.f k (l0.drop 1) Ab Ac).bind fun A7=>(some A7))=some r:=H;have A21:=Aside0.mk A210;clear A210;replace H:=ob H;obtain ⟨A7,A220,H⟩:=H;replace H:(some A7)=some r:=H;have A22:=Aside0.mk A220;clear A220;obtain rfl:=os H
     go_enter Try.func60,Try.ntmps60
     try go_wp2_with (first|((with_reducible refine gate_dst (N:=3) rfl ?_);refine bx (N:=3) (cs:=#[.int .i64 a1_0,.string a1_1]) (t:=29) ?_;intro A5 hg w23 hbox hb;have A1:=Aside0.mk (hbox);have Ad:=bz0 hg HB;have A2:=bz0 hg HB;replace HB:=bs0 HB hb;clear hb hbox hg;have hcz24__:=c2_ A1;have hfz24__:=f_ A1)|((with_reducible refine gate_callee (f:=107) rfl ?_);refine goesL_ (some 8) rfl rfl Try.func107 (by kernel_rfl) rfl #[.agg #[.int .i64 a1_0,.string a1_1]] rfl ml ?_;(with_reducible refine (impl_Table_known.calls a1_0 a1_1 A6 _ A3.out).mono ?_);rintro e w25 ⟨rfl,hb⟩;refine ⟨_,rfl,?_⟩;replace A1:=bb A1 hb;replace HB:=bs1 HB hb A2;(try clear hb);(try clear hb2);(try clear hk);(try clear hi)))
     replace A1:=Aside0.mk (blk_drew A1.out);replace HB:=Aside0.mk (below_drew1 HB.out);obtain ⟨i027,hi027,_,hsz27,_⟩:=info_parts info4;obtain ⟨A27,hcut27,hA27,hC27⟩:=print_drop_of (P:=Try.prog) Value.bool false 22 4 .i64 Try.underlying22 hi027 hsz27 A0 c0 l0 1 (by omega) (od) HC0.out;have HR103:=Aside0.mk (Kd.C_of_reads (h1:=fun _=>rfl) (hA27 _ (Kd.reads_of_C HR0.out)));have HC103:=Aside0.mk hC27;clear hA27 hC27 hi027 hsz27;refine start_ (n:=6) (S:=fun w'=>w'.cell? ⟨A5,0,none⟩=some (.int .i64 a1_0)∧w'.cell? ⟨A5,1,none⟩=some (.string a1_1)) (ds:=[]) (tf 0 6) (by kernel_rfl) rfl rfl ⟨(blk_cell A1.out 0).trans rfl,(blk_cell A1.out 1).trans rfl⟩ (fun hHeld=>?_);generalize w25.drew=w26 at A1 HB HR103 hHeld ⊢;refine pure_ (i:=0) (N:=some 12) (v:=?_) (a':=?_) (tf 1 5) rfl rfl (by kernel_rfl) (fun _ _ _ h=>h) (Or.inl ⟨by rfl,?_⟩) ?_ ?_;rotate_left
     ·intro w';go_simp;with_reducible rfl
     rotate_left
     ·simp only [Act.put,s1,s2,s3,i64_w,i32_w];rfl
     refine pure_ (i:=1) (N:=some 13) (v:=?_) (a':=?_) (tf 2 4) rfl rfl (by kernel_rfl) (fun _ _ _ h=>h) (Or.inl ⟨by rfl,?_⟩) ?_ ?_;rotate_left
     ·intro w';go_simp;with_reducible rfl
     rotate_left
     ·simp only [Act.put,s1,s2,s3,i64_w,i32_w];rfl
     refine take_ (i:=2) (N:=some 14) (v:=?_) (a':=?_) (tf 3 3) rfl rfl (by kernel_rfl) (fun _ _ _ h=>h) (Or.inl ⟨by rfl,?_⟩) hHeld ?_ ?_;rotate_left
     ·rintro w' ⟨s0,s1⟩;go_simp;with_reducible rfl
     rotate_left
     ·simp only [Act.put,s1,s2,s3,i64_w,i32_w];rfl
     refine one_ (i:=3) (N:=some 15) (tf 4 2) rfl rfl (by kernel_rfl) (by decide) (fun K hK=>?_);refine goes_ Try.func108 (by kernel_rfl) rfl #[.agg #[.int .i64 a1_0,.string a1_1],.int .i64 0] (by rfl) rfl rfl ml ?_
     with_reducible refine (impl_Table_half.calls a1_0 a1_1 0 A8 Aa _ A9.out).mono ?_
     rintro e w28 ⟨rfl,hb⟩;refine ⟨_,rfl,?_⟩;replace A1:=bb A1 hb;replace HB:=bs1 HB hb A2;(try clear hb);(try clear hb2);(try clear hk);(try clear hi);refine hK.out _ _ ⟨(blk_cell A1.out 0).trans rfl,(blk_cell A1.out 1).trans rfl⟩ (fun hHeld=>?_);clear hK K;refine norm_ (a':=?_) ?_ ?_;rotate_left
     ·show Act.put _ (some 15) _=_
      simp only [Act.put,s1,s2,s3,i64_w,i32_w];rfl
     refine one_ (i:=4) (N:=some 16) (tf 5 1) rfl rfl (by kernel_rfl) (by decide) (fun K hK=>?_);refine goes_ Try.func60 (by kernel_rfl) rfl #[.slice A27 (l0.drop 1).length (c0 - 1),.agg #[.int .i64 A8,.string Aa]] (by rfl) rfl rfl (by (try simp only [List.map_toArray,List.map_cons,List.map_nil]);first|done|(rw [show (l0.drop 1).length=(l0.length - 1) from List.length_drop] <;> rfl)|rfl|(simp only [List.length_drop,List.length_take];rfl)) ?_
     with_reducible refine (ih k (by omega) _ _ (l0.drop 1) A8 Aa A4 _ ?side1 ?side2 A10.out).mono ?_
     (case side1=>exact cw (Kd.C_below HR103.out HB.out))
     (case side2=>exact HC103.out)
     rintro e w29 ⟨rfl,hb⟩;refine ⟨_,rfl,?_⟩;replace A1:=bb A1 hb;replace HB:=bs1 HB hb A2;(try clear hb);(try clear hb2);(try clear hk);(try clear hi);refine hK.out _ _ ⟨(blk_cell A1.out 0).trans rfl,(blk_cell A1.out 1).trans rfl⟩ (fun hHeld=>?_);clear hK K;refine norm_ (a':=?_) ?_ ?_;rotate_left
     ·show Act.put _ (some 16) _=_
      simp only [Act.put,s1,s2,s3,i64_w,i32_w];rfl
     refine pure_ (i:=5) (N:=some 6) (v:=?_) (a':=?_) (tf 6 0) rfl rfl (by kernel_rfl) (fun _ _ _ h=>h) (Or.inl ⟨by rfl,?_⟩) ?_ ?_;rotate_left
     ·intro w';go_simp;with_reducible rfl
     rotate_left
     ·simp only [Act.put,s1,s2,s3,i64_w,i32_w];rfl
     refine done_ (by kernel_rfl) ?_;have p107:0≤(0:Int):=(by omega);have q107:0 < (l0.length:Int):=od;obtain ⟨ad107,e107,hx107_0⟩:=Kd.at_bool HR0.out 0 p107 q107;cases e107;have qi107:(0 < l0.length)=True:=eq_true (by omega)
     (try rw [show ((0:Int)).toNat=0 from rfl] at hx107_0)
     (try rw [Addr.add_zero'] at hx107_0)
     replace hx107_0:=ct HB hx107_0;replace p107:=eq_true p107;replace q107:=eq_true q107
     try go_wp2
     replace A1:=Aside0.mk (blk_drew A1.out);replace HB:=Aside0.mk (below_drew1 HB.out);obtain ⟨i031,hi031,_,hsz31,_⟩:=info_parts info4;obtain ⟨A31,hcut31,hA31,hC31⟩:=print_drop_of (P:=Try.prog) Value.bool false 22 4 .i64 Try.underlying22 hi031 hsz31 (some ad107) c0 l0 1 (by omega) (od) HC0.out
     obtain rfl:A27=A31:=by have e_:=(hcut27 w).symm.trans (hcut31 w);injection e_ with e_;injection e_
     have HR108:=Aside0.mk (Kd.C_of_reads (h1:=fun _=>rfl) (hA31 _ (Kd.reads_of_C HR0.out)));have HC108:=Aside0.mk hC31;clear hA31 hC31 hi031 hsz31;refine start_ (n:=6) (S:=fun w'=>w'.cell? ⟨A5,0,none⟩=some (.int .i64 a1_0)∧w'.cell? ⟨A5,1,none⟩=some (.string a1_1)) (ds:=[]) (tf 0 6) (by kernel_rfl) rfl rfl ⟨(blk_cell A1.out 0).trans rfl,(blk_cell A1.out 1).trans rfl⟩ (fun hHeld=>?_);generalize w29.drew=w30 at A1 HB HR108 hHeld ⊢;refine pure_ (i:=0) (N:=some 24) (v:=?_) (a':=?_) (tf 1 5) rfl rfl (by kernel_rfl) (fun _ _ _ h=>h) (Or.inl ⟨by rfl,?_⟩) ?_ ?_;rotate_left
     ·intro w';go_simp;with_reducible rfl
     rotate_left
     ·simp only [Act.put,s1,s2,s3,i64_w,i32_w];rfl
     refine pure_ (i:=1) (N:=some 25) (v:=?_) (a':=?_) (tf 2 4) rfl rfl (by kernel_rfl) (fun _ _ _ h=>h) (Or.inl ⟨by rfl,?_⟩) ?_ ?_;rotate_left
     ·intro w';go_simp;with_reducible rfl
     rotate_left
     ·simp only [Act.put,s1,s2,s3,i64_w,i32_w];rfl
     refine take_ (i:=2) (N:=some 26) (v:=?_) (a':=?_) (tf 3 3) rfl rfl (by kernel_rfl) (fun _ _ _ h=>h) (Or.inl ⟨by rfl,?_⟩) hHeld ?_ ?_;rotate_left
     ·rintro w' ⟨s0,s1⟩;go_simp;with_reducible rfl
     rotate_left
     ·simp only [Act.put,s1,s2,s3,i64_w,i32_w];rfl
     refine one_ (i:=3) (N:=some 27) (tf 4 2) rfl rfl (by kernel_rfl) (by decide) (fun K hK=>?_);refine goes_ Try.func108 (by kernel_rfl) rfl #[.agg #[.int .i64 a1_0,.string a1_1],.int .i64 1] (by rfl) rfl rfl ml ?_
     with_reducible refine (impl_Table_half.calls a1_0 a1_1 1 Ab Ac _ A21.out).mono ?_
     rintro e w32 ⟨rfl,hb⟩;refine ⟨_,rfl,?_⟩;replace A1:=bb A1 hb;replace HB:=bs1 HB hb A2;(try clear hb);(try clear hb2);(try clear hk);(try clear hi);refine hK.out _ _ ⟨(blk_cell A1.out 0).trans rfl,(blk_cell A1.out 1).trans rfl⟩ (fun hHeld=>?_);clear hK K;refine norm_ (a':=?_) ?_ ?_;rotate_left
     ·show Act.put _ (some 27) _=_
      simp only [Act.put,s1,s2,s3,i64_w,i32_w];rfl
     refine one_ (i:=4) (N:=some 28) (tf 5 1) rfl rfl (by kernel_rfl) (by decide) (fun K hK=>?_);refine goes_ Try.func60 (by kernel_rfl) rfl #[.slice A27 (l0.drop 1).length (c0 - 1),.agg #[.int .i64 Ab,.string Ac]] (by rfl) rfl rfl (by (try simp only [List.map_toArray,List.map_cons,List.map_nil]);first|done|(rw [show (l0.drop 1).length=(l0.length - 1) from List.length_drop] <;> rfl)|rfl|(simp only [List.length_drop,List.length_take];rfl)) ?_
     with_reducible refine (ih k (by omega) _ _ (l0.drop 1) Ab Ac A7 _ ?side1 ?side2 A22.out).mono ?_
     (case side1=>exact cw (Kd.C_below HR108.out HB.out))
     (case side2=>exact HC108.out)
     rintro e w33 ⟨rfl,hb⟩;refine ⟨_,rfl,?_⟩;replace A1:=bb A1 hb;replace HB:=bs1 HB hb A2;(try clear hb);(try clear hb2);(try clear hk);(try clear hi);refine hK.out _ _ ⟨(blk_cell A1.out 0).trans rfl,(blk_cell A1.out 1).trans rfl⟩ (fun hHeld=>?_);clear hK K;refine norm_ (a':=?_) ?_ ?_;rotate_left
     ·show Act.put _ (some 28) _=_
      simp only [Act.put,s1,s2,s3,i64_w,i32_w];rfl
     refine pure_ (i:=5) (N:=some 4) (v:=?_) (a':=?_) (tf 6 0) rfl rfl (by kernel_rfl) (fun _ _ _ h=>h) (Or.inl ⟨by rfl,?_⟩) ?_ ?_;rotate_left
     ·intro w';go_simp;with_reducible rfl
     rotate_left
     ·simp only [Act.put,s1,s2,s3,i64_w,i32_w];rfl
     refine done_ (by kernel_rfl) ?_
     try go_wp2
     go_ret;exact ⟨by first|exact er|(simp [errW_none,errW_some,show ¬ l0=[] from by intro h_;rw [h_] at c11b0;simp at c11b0];done)|(simp [*,show ¬ l0=[] from by intro h_;rw [h_] at c11b0;simp at c11b0];done)|(simp [errW_none,errW_some,show ¬ l0=[] from by intro h_;rw [h_] at c11b0;simp at c11b0] <;> rfl),tb HB⟩
   ·rw [if_neg c11] at H;exact absurd H (by simp)
  ·rw [if_neg c8] at H;exact absurd H (by simp)
end Go.Proofs.Ytlpfmhikahlcoaa.G
namespace Go.Proofs.Ytlpfmhikahlcoaa.G
open Go.Proofs.Ytlpfmhikahlcoaa.Sh
open Go.RowKit Go.Proofs.YtlpfmhikahlcoaaW.PrintWords Go.Proofs.YtlpfmhikahlcoaaW.PrintLast Go.Proofs.YtlpfmhikahlcoaaW.PrintMore
attribute [local go_sem] max2_int min2_int max_two min_two max_three min_three max_four min_four
set_option linter.unusedVariables false
set_option linter.unusedSimpArgs false
def impl_choose.f (k:Nat) (l0:List Bool) (a1_0:Int) (a1_1:ByteArray):Option (Int):=if 1≤(l0.length:Int) then ((impl_Table_half.f a1_0 a1_1 0).bind fun bt103=>((impl_decide.f k (l0.drop 1) bt103.1 bt103.2).bind fun A9=>((impl_decide.f k l0 a1_0 a1_1).bind fun A3=>((impl_bit.f (A9 != A3)).bind fun A8=>(some A8))))) else (none)
def impl_choose.T1:Bool × List (List Nat × List Nat):=(true,[([],[]),([0],[0]),([],[]),([2],[2]),([1,3,3],[1,3]),([],[]),([],[]),([5,6,4],[5,6]),([4,7],[4,7]),([8,7],[8]),([9,9,0,1,2,3,4,5,6,7,8,9],[9])])
def impl_choose.B1:List Nat:=[0,1,0,4,15,0,0,127,255,511,1023]
theorem impl_choose.tab1:rtab .any (opsOf Try.f62 1)=impl_choose.T1:=by kernel_rfl
theorem impl_choose.bits1:waitsOk impl_choose.T1.2 impl_choose.B1=true:=by kernel_rfl
set_option maxHeartbeats 8000000 in
set_option maxRecDepth 100000 in
theorem impl_choose.calls (k:Nat) (A0:Option Addr) (c0:Nat) (l0:List Bool) (a1_0:Int) (a1_1:ByteArray) (r:Int) (w:World) (hr0:Kd.C Kd.bool w A0 l0.length l0) (hc0:l0.length≤c0) (h:impl_choose.f k l0 a1_0 a1_1=some r) :
  Calls Try.prog 62 #[.slice A0 l0.length c0,.agg #[.int .i64 a1_0,.string a1_1]] w fun e w'=>e = .returned (.int .i64 r)∧Below w.heap.size w w':=by
 have hu29:=Try.underlying29;have HR0:=Aside0.mk hr0;have HC0:=Aside0.mk hc0;clear hr0 hc0;have HB:=Aside0.mk (Below.refl w.heap.size w);have H:(if 1≤(l0.length:Int) then ((impl_Table_half.f a1_0 a1_1 0).bind fun bt103=>((impl_decide.f k (l0.drop 1) bt103.1 bt103.2).bind fun A9=>((impl_decide.f k l0 a1_0 a1_1).bind fun A3=>((impl_bit.f (A9 != A3)).bind fun A8=>(some A8))))) else (none))=some r:=h;clear h
 by_cases c3:1≤(l0.length:Int)
 ·rw [if_pos c3] at H;have c3b0:=eq_true c3;have c3b1:decide (1≤(l0.length:Int))=true:=decide_eq_true c3;clear c3;replace H:=ob H;obtain ⟨⟨Aa,Ab⟩,A40,H⟩:=H
  try dsimp only at H
  have A4:=Aside0.mk A40;clear A40;replace H:=ob H;obtain ⟨A9,A50,H⟩:=H;replace H:((impl_decide.f k l0 a1_0 a1_1).bind fun A3=>((impl_bit.f (A9 != A3)).bind fun A8=>(some A8)))=some r:=H;have A5:=Aside0.mk A50;clear A50;replace H:=ob H;obtain ⟨A3,A60,H⟩:=H;replace H:((impl_bit.f (A9 != A3)).bind fun A8=>(some A8))=some r:=H;have A6:=Aside0.mk A60;clear A60;replace H:=ob H;obtain ⟨A8,A70,H⟩:=H;replace H:(some A8)=some r:=H;have A7:=Aside0.mk A70;clear A70;obtain rfl:=os H
  go_enter Try.func62,Try.ntmps62
  try go_wp2_with (first|((with_reducible refine gate_dst (N:=3) rfl ?_);refine bx (N:=3) (cs:=#[.int .i64 a1_0,.string a1_1]) (t:=29) ?_;intro A2 hg w8 hbox hb;have A1:=Aside0.mk (hbox);have GW101:=Aside0.mk ((by rw [hg];exact (below_size (tb HB)):w.heap.size≤A2));have GE101:=Aside0.mk ((by rw [hg];exact (below_size (tb HB)):w.heap.size≤A2));replace HB:=Aside0.mk (below_step (tb HB) hb);clear hb hbox hg))
  have n0_:=Aside0.mk (blk_drew A1.out);have n1_:=Aside0.mk (below_drew1 HB.out);clear A1;clear HB;have A1:=n0_;have HB:=n1_;clear n0_ n1_;obtain ⟨i010,hi010,_,hsz10,_⟩:=info_parts info4;obtain ⟨A10,hcut10,hA10,hC10⟩:=print_drop_of (P:=Try.prog) Value.bool false 22 4 .i64 Try.underlying22 hi010 hsz10 A0 c0 l0 1 (by omega) (od) HC0.out;have HR102:=Aside0.mk (Kd.C_of_reads (h1:=fun _=>rfl) (hA10 _ (Kd.reads_of_C HR0.out)));have HC102:=Aside0.mk hC10;clear hA10 hC10 hi010 hsz10;refine start_ (n:=11) (S:=fun w'=>w'.cell? ⟨A2,0,none⟩=some (.int .i64 a1_0)∧w'.cell? ⟨A2,1,none⟩=some (.string a1_1)) (ds:=[]) (tf 0 11) (by kernel_rfl) rfl rfl ⟨(blk_cell A1.out 0).trans rfl,(blk_cell A1.out 1).trans rfl⟩ (fun hHeld=>?_);refine with_tabW impl_choose.tab1 impl_choose.bits1 (fun HT_ HW_=>?_);generalize w8.drew=w9 at A1 HB HR102 hHeld ⊢;refine pure_ (i:=0) (N:=some 5) (v:=?_) (a':=?_) (tf 1 10) rfl rfl (any_of HT_.out (by kernel_rfl)) (fun _ _ _ h=>h) (Or.inl ⟨by rfl,?_⟩) ?_ ?_;rotate_left
  ·intro w';go_simp;with_reducible rfl
  rotate_left
  ·simp only [Act.put,s1,s2,s3,i64_w,i32_w];rfl
  refine pure_ (i:=1) (N:=some 6) (v:=?_) (a':=?_) (tf 2 9) rfl rfl (any_of HT_.out (by kernel_rfl)) (fun _ _ _ h=>h) (Or.inl ⟨by rfl,?_⟩) ?_ ?_;rotate_left
  ·intro w';go_simp;with_reducible rfl
  rotate_left
  ·simp only [Act.put,s1,s2,s3,i64_w,i32_w];rfl
  refine pure_ (i:=5) (N:=some 10) (v:=?_) (a':=?_) #[true,true,false,false,false,true,false,false,false,false,false] rfl rfl (any_of HT_.out (by kernel_rfl)) (fun _ _ _ h=>h) (Or.inl ⟨by rfl,?_⟩) ?_ ?_;rotate_left
  ·intro w';go_simp;with_reducible rfl
  rotate_left
  ·simp only [Act.put,s1,s2,s3,i64_w,i32_w];rfl
  refine take_ (i:=2) (N:=some 7) (v:=?_) (a':=?_) #[true,true,true,false,false,true,false,false,false,false,false] rfl rfl (take_ofW HT_.out HW_.out (by kernel_rfl)) (fun _ _ _ h=>h) (Or.inl ⟨by rfl,?_⟩) hHeld ?_ ?_;rotate_left
  ·rintro w' ⟨s0,s1⟩;go_simp;with_reducible rfl
  rotate_left
  ·simp only [Act.put,s1,s2,s3,i64_w,i32_w];rfl
  refine take_ (i:=6) (N:=some 11) (v:=?_) (a':=?_) #[true,true,true,false,false,true,true,false,false,false,false] rfl rfl (take_ofW HT_.out HW_.out (by kernel_rfl)) (fun _ _ _ h=>h) (Or.inl ⟨by rfl,?_⟩) hHeld ?_ ?_;rotate_left
  ·rintro w' ⟨s0,s1⟩;go_simp;with_reducible rfl
  rotate_left
  ·simp only [Act.put,s1,s2,s3,i64_w,i32_w];rfl
  refine one_ (i:=3) (N:=some 8) #[true,true,true,true,false,true,true,false,false,false,false] rfl rfl (one_of HT_.out (by kernel_rfl)) (by decide) (fun K hK=>?_);refine goes_ Try.func108 (by kernel_rfl) rfl #[.agg #[.int .i64 a1_0,.string a1_1],.int .i64 0] (by rfl) rfl rfl ml ?_
  with_reducible refine (impl_Table_half.calls a1_0 a1_1 0 Aa Ab _ A4.out).mono ?_
  rintro e w11 ⟨rfl,hb⟩;refine ⟨_,rfl,?_⟩;have n0_:=Aside0.mk (blk_below (g:=A2) (o := .cells #[.int .i64 a1_0,.string a1_1] 29 (0,0)) (dr A1) hb);have n1_:=Aside0.mk (below_step (tb HB) hb);clear A1;clear HB;have A1:=n0_;have HB:=n1_;clear n0_ n1_;(try clear hb);(try clear hb2);(try clear hk);(try clear hi);refine hK.out _ _ ⟨(blk_cell A1.out 0).trans rfl,(blk_cell A1.out 1).trans rfl⟩ (fun hHeld=>?_);clear hK K;refine norm_ (a':=?_) ?_ ?_;rotate_left
  ·show Act.put _ (some 8) _=_
   simp only [Act.put,s1,s2,s3,i64_w,i32_w];rfl
  refine one_ (i:=4) (N:=some 9) (tf 7 4) rfl rfl (one_of HT_.out (by kernel_rfl)) (by decide) (fun K hK=>?_);refine goes_ Try.func60 (by kernel_rfl) rfl #[.slice A10 (l0.drop 1).length (c0 - 1),.agg #[.int .i64 Aa,.string Ab]] (by rfl) rfl rfl (by (try simp only [List.map_toArray,List.map_cons,List.map_nil]);first|done|(rw [show (l0.drop 1).length=(l0.length - 1) from List.length_drop] <;> rfl)|rfl|(simp only [List.length_drop,List.length_take];rfl)) ?_
  with_reducible refine (impl_decide.calls k _ _ (l0.drop 1) Aa Ab A9 _ ?side1 ?side2 A5.out).mono ?_
  (case side1=>exact cw (Kd.C_below HR102.out HB.out))
  (case side2=>exact HC102.out)
  rintro e w12 ⟨rfl,hb⟩;refine ⟨_,rfl,?_⟩;have n0_:=Aside0.mk (blk_below (g:=A2) (o := .cells #[.int .i64 a1_0,.string a1_1] 29 (0,0)) (dr A1) hb);have n1_:=Aside0.mk (below_step (tb HB) hb);clear A1;clear HB;have A1:=n0_;have HB:=n1_;clear n0_ n1_;(try clear hb);(try clear hb2);(try clear hk);(try clear hi);refine hK.out _ _ ⟨(blk_cell A1.out 0).trans rfl,(blk_cell A1.out 1).trans rfl⟩ (fun hHeld=>?_);clear hK K;refine norm_ (a':=?_) ?_ ?_;rotate_left
  ·show Act.put _ (some 9) _=_
   simp only [Act.put,s1,s2,s3,i64_w,i32_w];rfl
  refine one_ (i:=7) (N:=some 12) (tf 8 3) rfl rfl (one_of HT_.out (by kernel_rfl)) (by decide) (fun K hK=>?_);refine goes_ Try.func60 (by kernel_rfl) rfl #[.slice A0 l0.length c0,.agg #[.int .i64 a1_0,.string a1_1]] (by rfl) rfl rfl ml ?_
  with_reducible refine (impl_decide.calls k _ _ l0 a1_0 a1_1 A3 _ ?side1 ?side2 A6.out).mono ?_
  (case side1=>exact cw (Kd.C_below HR0.out HB.out))
  (case side2=>exact HC0.out)
  rintro e w13 ⟨rfl,hb⟩;refine ⟨_,rfl,?_⟩;have n0_:=Aside0.mk (blk_below (g:=A2) (o := .cells #[.int .i64 a1_0,.string a1_1] 29 (0,0)) (dr A1) hb);have n1_:=Aside0.mk (below_step (tb HB) hb);clear A1;clear HB;have A1:=n0_;have HB:=n1_;clear n0_ n1_;(try clear hb);(try clear hb2);(try clear hk);(try clear hi);refine hK.out _ _ ⟨(blk_cell A1.out 0).trans rfl,(blk_cell A1.out 1).trans rfl⟩ (fun hHeld=>?_);clear hK K;refine norm_ (a':=?_) ?_ ?_;rotate_left
  ·show Act.put _ (some 12) _=_
   simp only [Act.put,s1,s2,s3,i64_w,i32_w];rfl
  refine pure_ (i:=8) (N:=some 13) (v:=?_) (a':=?_) (tf 9 2) rfl rfl (any_of HT_.out (by kernel_rfl)) (fun _ _ _ h=>h) (Or.inl ⟨by rfl,?_⟩) ?_ ?_;rotate_left
  ·intro w';go_simp;with_reducible rfl
  rotate_left
  ·simp only [Act.put,s1,s2,s3,i64_w,i32_w];rfl
  refine one_ (i:=9) (N:=some 14) (tf 10 1) rfl rfl (one_of HT_.out (by kernel_rfl)) (by decide) (fun K hK=>?_);refine goes_ Try.func99 (by kernel_rfl) rfl #[.bool (A9 != A3)] (by rfl) rfl rfl ml ?_
  with_reducible refine (impl_bit.calls (A9 != A3) A8 _ A7.out).mono ?_
  rintro e w' ⟨rfl,⟨nd,rfl⟩⟩;refine ⟨_,rfl,?_⟩;refine hK.out _ _ ⟨(blk_cell A1.out 0).trans rfl,(blk_cell A1.out 1).trans rfl⟩ (fun hHeld=>?_);clear hK K;refine norm_ (a':=?_) ?_ ?_;rotate_left
  ·show Act.put _ (some 14) _=_
   simp only [Act.put,s1,s2,s3,i64_w,i32_w];rfl
  refine pure_ (i:=10) (N:=some 4) (v:=?_) (a':=?_) (tf 11 0) rfl rfl (any_of HT_.out (by kernel_rfl)) (fun _ _ _ h=>h) (Or.inl ⟨by rfl,?_⟩) ?_ ?_;rotate_left
  ·intro w';go_simp;with_reducible rfl
  rotate_left
  ·simp only [Act.put,s1,s2,s3,i64_w,i32_w];rfl
  refine done_ (done_of HT_.out (by kernel_rfl)) ?_
  try go_wp2
  go_ret;exact ⟨er,tb HB⟩
 ·rw [if_neg c3] at H;exact absurd H (by simp)
end Go.Proofs.Ytlpfmhikahlcoaa.G
namespace Go.Proofs.Ytlpfmhikahlcoaa.G
open Go.RowKit Go.Proofs.YtlpfmhikahlcoaaW.PrintWords Go.Proofs.YtlpfmhikahlcoaaW.PrintLast Go.Proofs.YtlpfmhikahlcoaaW.PrintMore
attribute [local go_sem] max2_int min2_int max_two min_two max_three min_three max_four min_four
set_option linter.unusedVariables false
set_option linter.unusedSimpArgs false
theorem own_bool_at {W:World} {base n c:Nat} {ad:Addr} {l:List Bool} {ok:Nat→Prop} (h:Kd.R Kd.bool 4 W base ok (.slice (some ad) n c) l) (i:Nat) (hi:i < l.length):W.cell? (ad.add i)=some (.bool (rdOf false l (i:Int))):=by
 have hr:=Kd.R_reads' h
 obtain ⟨ad',e,hx⟩:=Kd.at_bool hr.2.2 (i:Int) (by omega) (by have:=hr.1;omega)
 cases e
 rwa [Int.toNat_natCast] at hx
def FrW (g:Nat) (w w':World):Prop:=∀ k cs T,k≠g→T≠108→w.heap[k]? = some (.cells cs T (0,0))→w'.heap[k]? = some (.cells cs T (0,0))
theorem FrW.refl (g:Nat) (w:World):FrW g w w:=fun _ _ _ _ _ h=>h
theorem FrW.trans {g:Nat} {w w1 w2:World} (h:FrW g w w1) (h2:FrW g w1 w2):FrW g w w2:=fun k cs T a b d=>h2 k cs T a b (h k cs T a b d)
theorem FrW.of_below {g:Nat} {w w1:World} (h:Below w.heap.size w w1):FrW g w w1:=fun k cs T _ _ d=>blk_below d h
theorem FrW.set {g:Nat} {w w1:World} (h:FrW g w w1) (j:Nat) (v:Value):FrW g w (w1.setCell ⟨g,j,none⟩ v):=fun k cs T a b d=>blk_far (h k cs T a b d) a _
theorem R_fr {α:Type} {d:Kd α} {e base g:Nat} {w w':World} {ok:Nat→Prop} {v:Value} {xs:List α} (h:d.R e w base ok v xs) (hf:FrW g w w') {cs:Array Value} (hg:w.heap[g]? = some (.cells cs 104 (0,0))) (ht:∀ q,q∈e :: d.E→q≠104∧q≠108):d.R e w' base ok v xs:=by
 refine Kd.R_mono (Kd.R_move (Kd.R_bound h) (fun k hk=>?_)) (fun _ hk=>hk.1)
 obtain ⟨_,_,_,q,hq,cells,hc⟩:=hk
 rw [hc]
 refine hf k cells q ?_ (ht q hq).2 hc
 rintro rfl
 rw [hg] at hc
 injection hc with hc
 injection hc with _ hc
 exact (ht q hq).1 hc.symm
structure IsW (W:World) (base g:Nat) (Ar:Option Addr) (nr cr:Nat) (Ao:Option Addr) (no co:Nat) (owns:List Bool) (Al:Option Addr) (nl cl:Nat) (L:List S108):Prop where
 blk:W.heap[g]? = some (.cells #[.slice Ar nr cr,.slice Ao no co,.slice Al nl cl] 104 (0,0))
 owns:Kd.R Kd.bool 4 W base (fun _=>True) (.slice Ao no co) owns
 list:Kd.S k108 108 W base (fun _=>True) (.slice Al nl cl) L
 geg:base≤g
theorem IsW.below {W W':World} {base g:Nat} {Ar:Option Addr} {nr cr:Nat} {Ao:Option Addr} {no co:Nat} {owns:List Bool} {Al:Option Addr} {nl cl:Nat} {L:List S108} (h:IsW W base g Ar nr cr Ao no co owns Al nl cl L) (hb:Below W.heap.size W W'):IsW W' base g Ar nr cr Ao no co owns Al nl cl L :=
 ⟨blk_below h.blk hb,Kd.R_below h.owns hb,Kd.S_below h.list hb,h.geg⟩
def IsWx (W:World) (base g:Nat) (Ar:Option Addr) (nr cr:Nat) (owns:List Bool) (L:List S108):Prop:=∃ Ao co Al cl,IsW W base g Ar nr cr Ao owns.length co owns Al L.length cl L
structure WS (w0 w W:World) (g gt:Nat) (Ar:Option Addr) (nr cr:Nat) (Ao:Option Addr) (no co:Nat) (owns:List Bool) (Al:Option Addr) (nl cl:Nat) (L:List S108) (Av:Option Addr) (cv:Nat) (vals:List Int) (n:Int) (s:ByteArray):Prop where
 I:IsW W w0.heap.size g Ar nr cr Ao no co owns Al nl cl L
 X:Below w0.heap.size w0 W
 F:FrW g w W
 T:W.heap[gt]? = some (.cells #[.int .i64 n,.string s] 29 (0,0))
 V:Kd.R (Kd.int .i64) 3 W w0.heap.size (fun _=>True) (.slice Av vals.length cv) vals
 len:nl=L.length
section
variable {w0 w W W':World} {g gt:Nat} {Ar:Option Addr} {nr cr:Nat} {Ao:Option Addr} {no co:Nat} {owns:List Bool} {Al:Option Addr} {nl cl:Nat} {L:List S108} {Av:Option Addr} {cv:Nat} {vals:List Int} {n:Int} {s:ByteArray}
theorem WS.ne (h:WS w0 w W g gt Ar nr cr Ao no co owns Al nl cl L Av cv vals n s):gt≠g:=blk_ne h.T h.I.blk (by decide)
theorem WS.below (h:WS w0 w W g gt Ar nr cr Ao no co owns Al nl cl L Av cv vals n s) (hb:Below W.heap.size W W'):WS w0 w W' g gt Ar nr cr Ao no co owns Al nl cl L Av cv vals n s :=
 ⟨h.I.below hb,below_step h.X hb,h.F.trans (FrW.of_below hb),blk_below h.T hb,Kd.R_below h.V hb,h.len⟩
theorem WS.turn (h:WS w0 w W g gt Ar nr cr Ao no co owns Al nl cl L Av cv vals n s) {Ao':Option Addr} {no' co':Nat} {Al':Option Addr} {nl' cl':Nat} {L':List S108} (hi:IsW W' w0.heap.size g Ar nr cr Ao' no' co' owns Al' nl' cl' L') (hl:nl'=L'.length) (hx:Below w0.heap.size w0 W') (hf:FrW g W W') :
  WS w0 w W' g gt Ar nr cr Ao' no' co' owns Al' nl' cl' L' Av cv vals n s :=
 ⟨hi,hx,h.F.trans hf,hf _ _ _ h.ne (by decide) h.T,R_fr h.V hf h.I.blk (by decide),hl⟩
theorem WS.put (h:WS w0 w W g gt Ar nr cr Ao no co owns Al nl cl L Av cv vals n s) {Al':Option Addr} {nl' cl':Nat} {L':List S108} (ho:Kd.S k108 108 W' w0.heap.size (fun _=>True) (.slice Al' nl' cl') L') (hl:nl'=L'.length) (hx:Below w0.heap.size w0 W') (hg:W.grownBy W' (Value.slice Al nl cl).ownBlock) :
  WS w0 w (W'.setCell ⟨g,2,none⟩ (.slice Al' nl' cl')) g gt Ar nr cr Ao no co owns Al' nl' cl' L' Av cv vals n s:=by
 have hb:=blk_grown h.I.blk hg (Kd.S_ne h.I.list h.I.blk (by decide))
 have ht:=blk_grown h.T hg (Kd.S_ne h.I.list h.T (by decide))
 refine ⟨⟨blk_put hb 2 _ rfl,Kd.R_set (Kd.R_over' h.I.owns (Kd.S_typed h.I.list) (by decide) hg) hb (by decide) 2 _,Kd.S_set ho hb (by decide) 2 _,h.I.geg⟩,below_set hx h.I.geg,?_,blk_far ht h.ne _,Kd.R_set (Kd.R_over' h.V (Kd.S_typed h.I.list) (by decide) hg) hb (by decide) 2 _,hl⟩
 exact FrW.set (fun k cs T a b d=>blk_grown (h.F k cs T a b d) hg (Kd.S_ne h.I.list (h.F k cs T a b d) (fun e=>b e.symm))) 2 _
theorem WS.x (h:WS w0 w W g gt Ar nr cr Ao owns.length co owns Al nl cl L Av cv vals n s):IsWx W w0.heap.size g Ar nr cr owns L:=by
 have hI:=h.I
 rw [h.len] at hI
 exact ⟨_,_,_,_,hI⟩
theorem inner_ok (hl:Kd.S k108 108 W w0.heap.size (fun _=>True) (.slice Al nl cl) L) {v:Value} {xs:List Int} {b:Nat} (hs:b≤W.heap.size) (hb0:w0.heap.size≤b) (h:Kd.R (Kd.int .i64) 3 W b (fun _=>True) v xs):Kd.R (Kd.int .i64) 3 W w0.heap.size (fun k=>b≤k∧some k≠(Value.slice Al nl cl).ownBlock) v xs:=by
 refine Kd.R_lower (base':=w0.heap.size) ⟨fun k hk=>⟨(Kd.R_bound h).1 k hk |>.2.1,fun e=>?_⟩,h.2⟩ hb0
 obtain ⟨c1,h1⟩:=Kd.R_typed h k hk
 exact Kd.S_ne hl h1 (by decide) e
theorem list_old {Wb:World} (hl:Kd.S k108 108 Wb w0.heap.size (fun _=>True) (.slice Al nl cl) L) (hb:Below Wb.heap.size Wb W) {u:Value}:Kd.S k108 108 W w0.heap.size (fun k=>True∧¬ (Wb.heap.size≤k∧some k≠u.ownBlock)) (.slice Al nl cl) L :=
 Kd.S_mono (Kd.S_old hl hb) (fun k hk=>⟨trivial,fun h=>by have:=hk.2;have:=h.1;omega⟩)
end
def wkF:Nat→List Bool→List Bool→Int→ByteArray→List Int→List S108→Option (List S108)
 | 0,_,_,_,_,_,_=>none
 | k + 1,row,owns,n,s,vals,L=>(impl_Table_known.f n s).bind fun kn=>if 0≤kn then some L else
  if vals.length < owns.length then
   if rdOf false owns (vals.length:Int)=false then
    (impl_Table_half.f n s 0).bind fun h=>(impl_copyInts.f vals).bind fun c=>if c.length < 17592186044416 then (wkF k row owns h.1 h.2 (c ++ [0]) L).bind fun L1 =>
     (impl_Table_half.f n s 1).bind fun h1=>wkF k row owns h1.1 h1.2 (c ++ [1]) L1 else none
   else if vals.length≤row.length then (impl_choose.f k (row.drop vals.length) n s).bind fun b=>(impl_copyInts.f vals).bind fun c=>if c.length < 17592186044416∧L.length < 4398046511104 then
    (impl_Table_half.f n s b).bind fun h=>wkF k row owns h.1 h.2 (c ++ [b]) (L ++ [⟨c,b⟩]) else none else none
  else none
set_option maxHeartbeats 8000000 in
set_option maxRecDepth 100000 in
theorem wk.calls:∀ (k:Nat) (w0:World) (row:List Bool) (Ar:Option Addr) (cr:Nat) (hrow:Kd.C Kd.bool w0 Ar row.length row) (hrc:row.length≤cr) (g:Nat) (owns:List Bool) (n:Int) (s:ByteArray) (L:List S108) (Av:Option Addr) (nv cv:Nat) (vals:List Int) (R:List S108) (w:World),nv=vals.length →
  IsWx w w0.heap.size g Ar row.length cr owns L→Below w0.heap.size w0 w→Kd.R (Kd.int .i64) 3 w w0.heap.size (fun _=>True) (.slice Av nv cv) vals→wkF k row owns n s vals L=some R →
  Calls Try.prog 91 #[.pointer (some ⟨g,0,none⟩),.agg #[.int .i64 n,.string s],.slice Av nv cv] w fun e w'=>e = .returned (.tuple #[])∧IsWx w' w0.heap.size g Ar row.length cr owns R∧Below w0.heap.size w0 w'∧FrW g w w':=by
 intro k
 induction k with
 | zero=>intro w0 row Ar cr _ _ g owns n s L Av nv cv vals R w _ _ _ _ h;cases h
 | succ k ih =>
 intro w0 row Ar cr hrow hrc g owns n s L Av nv cv vals R w hnv hI hB hV h
 obtain ⟨Ao,co,Al,cl,hI⟩:=hI
 obtain ⟨nl,hnl⟩:∃ z,z=L.length:=⟨_,rfl⟩
 rw [← hnl] at hI
 subst hnv
 have HRW:=Aside0.mk hrow
 have HRC:=Aside0.mk hrc
 have HI:=Aside0.mk hI
 have HX:=Aside0.mk hB
 have HV:=Aside0.mk hV
 have LEN:=Aside0.mk hnl
 clear hrow hrc hI hB hV hnl
 unfold wkF at h
 obtain ⟨kn,hk,h⟩:=Option.bind_eq_some_iff.1 h
 have HK:=Aside0.mk hk
 clear hk
 by_cases c1:0≤kn
 ·rw [if_pos c1] at h
  obtain rfl:=Option.some.inj h
  have dk:decide (0≤kn)=true:=decide_eq_true c1
  clear c1 h
  go_enter Try.func91,Try.ntmps91
  go_wp2_with (first|((with_reducible refine gate_dst (N:=4) rfl ?_);refine box_event ?hg (N:=4) ?hd (cs:=#[.int .i64 n,.string s]) (t:=29) ?hr ?_;(case hd=>rfl);(case hg=>rfl);(case hr=>first|(go_simp;done)|(go_simp;rfl));intro gt hg w1 hbox hb;have Sa:Aside0 (WS w0 w w1 g gt Ar row.length cr Ao owns.length co owns Al nl cl L Av cv vals n s):=⟨⟨HI.out.below hb,below_step HX.out hb,FrW.of_below hb,hbox,Kd.R_below HV.out hb,LEN.out⟩⟩;have hct0:w1.cell? ⟨gt,0,none⟩=some (.int .i64 n):=(blk_cell Sa.out.T 0).trans rfl;have hct1:w1.cell? ⟨gt,1,none⟩=some (.string s):=(blk_cell Sa.out.T 1).trans rfl;have hcg0:w1.cell? ⟨g,0,none⟩=some (.slice Ar row.length cr):=(blk_cell Sa.out.I.blk 0).trans rfl;have hcg1:w1.cell? ⟨g,1,none⟩=some (.slice Ao owns.length co):=(blk_cell Sa.out.I.blk 1).trans rfl;have hcg2:w1.cell? ⟨g,2,none⟩=some (.slice Al nl cl):=(blk_cell Sa.out.I.blk 2).trans rfl;clear hg hbox hb)|((with_reducible refine gate_callee (f:=107) rfl ?_);(try (refine gate_guard (by rfl) ?_;dsimp only));refine goesL_ (some 9) rfl rfl Try.func107 (by kernel_rfl) rfl #[.agg #[.int .i64 n,.string s]] rfl (by (try simp only [List.map_toArray,List.map_cons,List.map_nil]);first|done|rfl) ?_;(with_reducible refine (impl_Table_known.calls n s kn _ HK.out).mono ?_);rintro e w2 ⟨rfl,hb⟩;refine ⟨_,rfl,?_⟩;have Sb:=Aside0.mk (Sa.out.below hb);clear hct0 hct1 hcg0 hcg1 hcg2;clear hb Sa;have hct0:w2.cell? ⟨gt,0,none⟩=some (.int .i64 n):=(blk_cell Sb.out.T 0).trans rfl;have hct1:w2.cell? ⟨gt,1,none⟩=some (.string s):=(blk_cell Sb.out.T 1).trans rfl;have hcg0:w2.cell? ⟨g,0,none⟩=some (.slice Ar row.length cr):=(blk_cell Sb.out.I.blk 0).trans rfl;have hcg1:w2.cell? ⟨g,1,none⟩=some (.slice Ao owns.length co):=(blk_cell Sb.out.I.blk 1).trans rfl;have hcg2:w2.cell? ⟨g,2,none⟩=some (.slice Al nl cl):=(blk_cell Sb.out.I.blk 2).trans rfl))
  refine bodyPost_ret (results_none rfl _ _ _) rfl ?_
  have hl:=Sb.out.len
  have hI:=Sb.out.I
  rw [hl] at hI
  exact ⟨rfl,⟨_,_,_,_,hI⟩,Sb.out.X,Sb.out.F⟩
 rw [if_neg c1] at h
 have dk:decide (0≤kn)=false:=decide_eq_false c1
 clear c1
 by_cases c2:vals.length < owns.length
 case neg=>rw [if_neg c2] at h;cases h
 rw [if_pos c2] at h
 have C2:=Aside0.mk c2
 obtain ⟨ad,e_,hxo⟩:=Kd.at_bool (Kd.R_reads' HI.out.owns).2.2 (vals.length:Int) (by omega) (by omega)
 cases e_
 clear hxo
 have q1:(vals.length < owns.length)=True:=eq_true (by omega)
 have q2:((vals.length:Int) < (owns.length:Int))=True:=eq_true (by omega)
 clear c2
 cases c3:rdOf false owns (vals.length:Int) with
 | false =>
  have C3:=Aside0.mk c3
  rw [c3] at h
  rw [if_pos rfl] at h
  obtain ⟨⟨n0,s0⟩,h0,h⟩:=Option.bind_eq_some_iff.1 h
  obtain ⟨c,hc,h⟩:=Option.bind_eq_some_iff.1 h
  by_cases c4:c.length < 17592186044416
  case neg=>rw [if_neg c4] at h;cases h
  rw [if_pos c4] at h
  obtain ⟨L1,hb0,h⟩:=Option.bind_eq_some_iff.1 h
  obtain ⟨⟨n1,s1⟩,h1,h⟩:=Option.bind_eq_some_iff.1 h
  obtain ⟨y0,hy0⟩:∃ y:List Int,y=c ++ [0]:=⟨_,rfl⟩
  obtain ⟨y1,hy1⟩:∃ y:List Int,y=c ++ [1]:=⟨_,rfl⟩
  rw [← hy0] at hb0
  rw [← hy1] at h
  dsimp only at hb0 h
  have H0:=Aside0.mk h0
  have H1:=Aside0.mk h1
  have HCP:=Aside0.mk hc
  have HL:=Aside0.mk c4
  have HB0:=Aside0.mk hb0
  have HB1:=Aside0.mk h
  have Y0:=Aside0.mk hy0
  have Y1:=Aside0.mk hy1
  clear h0 h1 hc c4 hb0 h hy0 hy1
  go_enter Try.func91,Try.ntmps91
  go_wp2_with (first|((with_reducible refine gate_dst (N:=4) rfl ?_);refine box_event ?hg (N:=4) ?hd (cs:=#[.int .i64 n,.string s]) (t:=29) ?hr ?_;(case hd=>rfl);(case hg=>rfl);(case hr=>first|(go_simp;done)|(go_simp;rfl));intro gt hg w1 hbox hb;have Sa:Aside0 (WS w0 w w1 g gt Ar row.length cr (some ad) owns.length co owns Al nl cl L Av cv vals n s):=⟨⟨HI.out.below hb,below_step HX.out hb,FrW.of_below hb,hbox,Kd.R_below HV.out hb,LEN.out⟩⟩;have hct0:w1.cell? ⟨gt,0,none⟩=some (.int .i64 n):=(blk_cell Sa.out.T 0).trans rfl;have hct1:w1.cell? ⟨gt,1,none⟩=some (.string s):=(blk_cell Sa.out.T 1).trans rfl;have hcg0:w1.cell? ⟨g,0,none⟩=some (.slice Ar row.length cr):=(blk_cell Sa.out.I.blk 0).trans rfl;have hcg1:w1.cell? ⟨g,1,none⟩=some (.slice (some ad) owns.length co):=(blk_cell Sa.out.I.blk 1).trans rfl;have hcg2:w1.cell? ⟨g,2,none⟩=some (.slice Al nl cl):=(blk_cell Sa.out.I.blk 2).trans rfl;have hxo:=C3.out ▸ own_bool_at Sa.out.I.owns vals.length C2.out;clear hg hbox hb)|((with_reducible refine gate_callee (f:=107) rfl ?_);(try (refine gate_guard (by rfl) ?_;dsimp only));refine goesL_ (some 9) rfl rfl Try.func107 (by kernel_rfl) rfl #[.agg #[.int .i64 n,.string s]] rfl (by (try simp only [List.map_toArray,List.map_cons,List.map_nil]);first|done|rfl) ?_;(with_reducible refine (impl_Table_known.calls n s kn _ HK.out).mono ?_);rintro e w2 ⟨rfl,hb⟩;refine ⟨_,rfl,?_⟩;have Sb:=Aside0.mk (Sa.out.below hb);clear hct0 hct1 hcg0 hcg1 hcg2 hxo;clear hb Sa;have hct0:w2.cell? ⟨gt,0,none⟩=some (.int .i64 n):=(blk_cell Sb.out.T 0).trans rfl;have hct1:w2.cell? ⟨gt,1,none⟩=some (.string s):=(blk_cell Sb.out.T 1).trans rfl;have hcg0:w2.cell? ⟨g,0,none⟩=some (.slice Ar row.length cr):=(blk_cell Sb.out.I.blk 0).trans rfl;have hcg1:w2.cell? ⟨g,1,none⟩=some (.slice (some ad) owns.length co):=(blk_cell Sb.out.I.blk 1).trans rfl;have hcg2:w2.cell? ⟨g,2,none⟩=some (.slice Al nl cl):=(blk_cell Sb.out.I.blk 2).trans rfl;have hxo:=C3.out ▸ own_bool_at Sb.out.I.owns vals.length C2.out)|((with_reducible refine gate_callee (f:=108) rfl ?_);(try (refine gate_guard (by rfl) ?_;dsimp only));refine goesL_ (some 23) rfl rfl Try.func108 (by kernel_rfl) rfl #[.agg #[.int .i64 n,.string s],.int .i64 0] rfl (by (try simp only [List.map_toArray,List.map_cons,List.map_nil]);first|done|rfl) ?_;(with_reducible refine (impl_Table_half.calls n s 0 n0 s0 _ H0.out).mono ?_);rintro e w3 ⟨rfl,hb⟩;refine ⟨_,rfl,?_⟩;have Sc:=Aside0.mk (Sb.out.below hb);clear hct0 hct1 hcg0 hcg1 hcg2 hxo;clear hb Sb;have hct0:w3.cell? ⟨gt,0,none⟩=some (.int .i64 n):=(blk_cell Sc.out.T 0).trans rfl;have hct1:w3.cell? ⟨gt,1,none⟩=some (.string s):=(blk_cell Sc.out.T 1).trans rfl;have hcg0:w3.cell? ⟨g,0,none⟩=some (.slice Ar row.length cr):=(blk_cell Sc.out.I.blk 0).trans rfl;have hcg1:w3.cell? ⟨g,1,none⟩=some (.slice (some ad) owns.length co):=(blk_cell Sc.out.I.blk 1).trans rfl;have hcg2:w3.cell? ⟨g,2,none⟩=some (.slice Al nl cl):=(blk_cell Sc.out.I.blk 2).trans rfl;have hxo:=C3.out ▸ own_bool_at Sc.out.I.owns vals.length C2.out)|((with_reducible refine gate_callee (f:=115) rfl ?_);(try (refine gate_guard (by rfl) ?_;dsimp only));refine goesL_ (some 25) rfl rfl Try.func115 (by kernel_rfl) rfl #[.slice Av vals.length cv] rfl (by (try simp only [List.map_toArray,List.map_cons,List.map_nil]);first|done|rfl) ?_;(with_reducible refine (impl_copyInts.calls Av cv vals c _ (Kd.R_reads' Sc.out.V).2.2 (Kd.R_reads' Sc.out.V).2.1 HCP.out).mono ?_);rintro e w4 ⟨v_,rfl,ho,hb⟩;refine ⟨_,rfl,?_⟩;have RO:=Aside0.mk ho;have HB_RO:=Aside0.mk hb;clear ho hb)|((with_reducible refine gate_builtin (b := .append) (xs:=#[.tmp 25,.tmp 26]) rfl ?_);(try (refine gate_guard (by rfl) ?_;dsimp only));at_builtin;refine Kd.R_append (Kd.int .i64) (w0:=w3) w3.heap.size rfl (.tmp 25) (.tmp 26) 33 3 (.int .i64 0) 8 rfl Try.underlying33 info3 rfl (by decide) (by decide) _ c 0 [.int .i64 0] (fun _=>True) (fun _=>False) rfl rfl rfl (fun _ hk=>hk.elim) (fun _ _=>trivial) RO.out HB_RO.out HB_RO.out.size (by have:=HL.out;omega) ?_;intro v_ w5 ho hbx hg hat;rw [show c ++ [0]=y0 from Y0.out.symm] at ho;have HRd:=Aside0.mk (Kd.R_lower ho Sc.out.X.size);clear ho hg hat HB_RO RO;obtain ⟨Ad,cd,ed⟩:=Kd.R_slice HRd.out;subst ed;have Sd:=Aside0.mk (Sc.out.below hbx);clear hct0 hct1 hcg0 hcg1 hcg2 hxo;clear hbx Sc;have hct0:w5.cell? ⟨gt,0,none⟩=some (.int .i64 n):=(blk_cell Sd.out.T 0).trans rfl;have hct1:w5.cell? ⟨gt,1,none⟩=some (.string s):=(blk_cell Sd.out.T 1).trans rfl;have hcg0:w5.cell? ⟨g,0,none⟩=some (.slice Ar row.length cr):=(blk_cell Sd.out.I.blk 0).trans rfl;have hcg1:w5.cell? ⟨g,1,none⟩=some (.slice (some ad) owns.length co):=(blk_cell Sd.out.I.blk 1).trans rfl;have hcg2:w5.cell? ⟨g,2,none⟩=some (.slice Al nl cl):=(blk_cell Sd.out.I.blk 2).trans rfl;have hxo:=C3.out ▸ own_bool_at Sd.out.I.owns vals.length C2.out)|((with_reducible refine gate_callee (f:=91) rfl ?_);(try (refine gate_guard (by rfl) ?_;dsimp only));refine goesL_ (some 28) rfl rfl Try.func91 (by kernel_rfl) rfl #[.pointer (some ⟨g,0,none⟩),.agg #[.int .i64 n0,.string s0],.slice Ad y0.length cd] rfl (by (try simp only [List.map_toArray,List.map_cons,List.map_nil]);first|done|rfl) ?_;(with_reducible refine (ih w0 row Ar cr HRW.out HRC.out g owns n0 s0 L Ad y0.length cd y0 L1 _ rfl (Sd.out.x) Sd.out.X HRd.out HB0.out).mono ?_);rintro e w6 ⟨rfl,hI,hB,hF⟩;refine ⟨_,rfl,?_⟩;obtain ⟨Aoq,coq,Alq,clq,hI⟩:=hI;obtain ⟨nlq,hnl⟩:∃ z,z=L1.length:=⟨_,rfl⟩;rw [← hnl] at hI;have Se:=Aside0.mk (Sd.out.turn hI hnl hB hF);clear hct0 hct1 hcg0 hcg1 hcg2 hxo;clear hI hnl hB hF HRd Sd;have hct0:w6.cell? ⟨gt,0,none⟩=some (.int .i64 n):=(blk_cell Se.out.T 0).trans rfl;have hct1:w6.cell? ⟨gt,1,none⟩=some (.string s):=(blk_cell Se.out.T 1).trans rfl;have hcg0:w6.cell? ⟨g,0,none⟩=some (.slice Ar row.length cr):=(blk_cell Se.out.I.blk 0).trans rfl;have hcg1:w6.cell? ⟨g,1,none⟩=some (.slice Aoq owns.length coq):=(blk_cell Se.out.I.blk 1).trans rfl;have hcg2:w6.cell? ⟨g,2,none⟩=some (.slice Alq nlq clq):=(blk_cell Se.out.I.blk 2).trans rfl)|((with_reducible refine gate_callee (f:=108) rfl ?_);(try (refine gate_guard (by rfl) ?_;dsimp only));refine goesL_ (some 31) rfl rfl Try.func108 (by kernel_rfl) rfl #[.agg #[.int .i64 n,.string s],.int .i64 1] rfl (by (try simp only [List.map_toArray,List.map_cons,List.map_nil]);first|done|rfl) ?_;(with_reducible refine (impl_Table_half.calls n s 1 n1 s1 _ H1.out).mono ?_);rintro e w7 ⟨rfl,hb⟩;refine ⟨_,rfl,?_⟩;have Sf:=Aside0.mk (Se.out.below hb);clear hct0 hct1 hcg0 hcg1 hcg2;clear hb Se;have hct0:w7.cell? ⟨gt,0,none⟩=some (.int .i64 n):=(blk_cell Sf.out.T 0).trans rfl;have hct1:w7.cell? ⟨gt,1,none⟩=some (.string s):=(blk_cell Sf.out.T 1).trans rfl;have hcg0:w7.cell? ⟨g,0,none⟩=some (.slice Ar row.length cr):=(blk_cell Sf.out.I.blk 0).trans rfl;have hcg1:w7.cell? ⟨g,1,none⟩=some (.slice Aoq owns.length coq):=(blk_cell Sf.out.I.blk 1).trans rfl;have hcg2:w7.cell? ⟨g,2,none⟩=some (.slice Alq nlq clq):=(blk_cell Sf.out.I.blk 2).trans rfl)|((with_reducible refine gate_callee (f:=115) rfl ?_);(try (refine gate_guard (by rfl) ?_;dsimp only));refine goesL_ (some 33) rfl rfl Try.func115 (by kernel_rfl) rfl #[.slice Av vals.length cv] rfl (by (try simp only [List.map_toArray,List.map_cons,List.map_nil]);first|done|rfl) ?_;(with_reducible refine (impl_copyInts.calls Av cv vals c _ (Kd.R_reads' Sf.out.V).2.2 (Kd.R_reads' Sf.out.V).2.1 HCP.out).mono ?_);rintro e w8 ⟨v_,rfl,ho,hb⟩;refine ⟨_,rfl,?_⟩;have RO2:=Aside0.mk ho;have HB_RO2:=Aside0.mk hb;clear ho hb)|((with_reducible refine gate_builtin (b := .append) (xs:=#[.tmp 33,.tmp 34]) rfl ?_);(try (refine gate_guard (by rfl) ?_;dsimp only));at_builtin;refine Kd.R_append (Kd.int .i64) (w0:=w7) w7.heap.size rfl (.tmp 33) (.tmp 34) 33 3 (.int .i64 0) 8 rfl Try.underlying33 info3 rfl (by decide) (by decide) _ c 1 [.int .i64 1] (fun _=>True) (fun _=>False) rfl rfl rfl (fun _ hk=>hk.elim) (fun _ _=>trivial) RO2.out HB_RO2.out HB_RO2.out.size (by have:=HL.out;omega) ?_;intro v_ w9 ho hbx hg hat;rw [show c ++ [1]=y1 from Y1.out.symm] at ho;have HRg:=Aside0.mk (Kd.R_lower ho Sf.out.X.size);clear ho hg hat HB_RO2 RO2;obtain ⟨Ag,cg,eg⟩:=Kd.R_slice HRg.out;subst eg;have Sg:=Aside0.mk (Sf.out.below hbx);clear hct0 hct1 hcg0 hcg1 hcg2;clear hbx Sf;have hct0:w9.cell? ⟨gt,0,none⟩=some (.int .i64 n):=(blk_cell Sg.out.T 0).trans rfl;have hct1:w9.cell? ⟨gt,1,none⟩=some (.string s):=(blk_cell Sg.out.T 1).trans rfl;have hcg0:w9.cell? ⟨g,0,none⟩=some (.slice Ar row.length cr):=(blk_cell Sg.out.I.blk 0).trans rfl;have hcg1:w9.cell? ⟨g,1,none⟩=some (.slice Aoq owns.length coq):=(blk_cell Sg.out.I.blk 1).trans rfl;have hcg2:w9.cell? ⟨g,2,none⟩=some (.slice Alq nlq clq):=(blk_cell Sg.out.I.blk 2).trans rfl)|((with_reducible refine gate_callee (f:=91) rfl ?_);(try (refine gate_guard (by rfl) ?_;dsimp only));refine goesL_ (some 36) rfl rfl Try.func91 (by kernel_rfl) rfl #[.pointer (some ⟨g,0,none⟩),.agg #[.int .i64 n1,.string s1],.slice Ag y1.length cg] rfl (by (try simp only [List.map_toArray,List.map_cons,List.map_nil]);first|done|rfl) ?_;(with_reducible refine (ih w0 row Ar cr HRW.out HRC.out g owns n1 s1 L1 Ag y1.length cg y1 R _ rfl (Sg.out.x) Sg.out.X HRg.out HB1.out).mono ?_);rintro e w10 ⟨rfl,hI,hB,hF⟩;refine ⟨_,rfl,?_⟩;have FIN:=Aside0.mk (And.intro hI (And.intro hB (Sg.out.F.trans hF)));clear hI hB hF))
  refine bodyPost_ret (results_none rfl _ _ _) rfl ?_
  exact ⟨rfl,FIN.out.1,FIN.out.2.1,FIN.out.2.2⟩
 | true =>
  have C3:=Aside0.mk c3
  rw [c3] at h
  rw [if_neg (by decide)] at h
  by_cases c5:vals.length≤row.length
  case neg=>rw [if_neg c5] at h;cases h
  rw [if_pos c5] at h
  obtain ⟨b,hch,h⟩:=Option.bind_eq_some_iff.1 h
  obtain ⟨c,hc,h⟩:=Option.bind_eq_some_iff.1 h
  by_cases c4:c.length < 17592186044416∧L.length < 4398046511104
  case neg=>rw [if_neg c4] at h;cases h
  rw [if_pos c4] at h
  obtain ⟨⟨n0,s0⟩,h0,h⟩:=Option.bind_eq_some_iff.1 h
  obtain ⟨y0,hy0⟩:∃ y:List Int,y=c ++ [b]:=⟨_,rfl⟩
  obtain ⟨L1,hL1⟩:∃ z:List S108,z=L ++ [⟨c,b⟩]:=⟨_,rfl⟩
  obtain ⟨rw1,hrw1⟩:∃ z:List Bool,z=row.drop vals.length:=⟨_,rfl⟩
  rw [← hy0,← hL1] at h
  rw [← hrw1] at hch
  dsimp only at h
  have HCH:=Aside0.mk hch
  have H0:=Aside0.mk h0
  have HCP:=Aside0.mk hc
  have HL:=Aside0.mk c4.1
  have HLL:=Aside0.mk c4.2
  have HB0:=Aside0.mk h
  have Y0:=Aside0.mk hy0
  have YL:=Aside0.mk hL1
  have YR:=Aside0.mk hrw1
  clear h0 hc c4 h hy0 hL1 hrw1 hch
  -- the cut of the row
  have q87:(vals.length:Int)≤((row.length:Int):Int):=by omega
  obtain ⟨i087,hi087,_,hsz87,_⟩:=info_parts info4
  have hcut87:=cut_from (P:=Try.prog) 22 4 .i64 Try.underlying22 hi087 1 hsz87 Ar row.length cr (vals.length:Int) (by omega) q87
  have hr87:=Kd.C_drop (m:=vals.length) (c:=cr) HRW.out c5 HRC.out
  obtain ⟨A87,hA87⟩:∃ A1,A1=(if cr=vals.length then Ar else (Ar:Option Addr).map (·.add (vals.length * 1))):=⟨_,rfl⟩
  obtain ⟨c87,hc87⟩:∃ c1,c1=cr - vals.length:=⟨_,rfl⟩
  have hy87:rw1.length=row.length - vals.length:=by rw [YR.out,List.length_drop]
  rw [show row.drop vals.length=rw1 from YR.out.symm] at hr87
  replace hr87:Kd.C Kd.bool w0 A87 rw1.length rw1:=(by rw [hA87];exact hr87)
  rw [Int.toNat_natCast,← hy87,← hA87,← hc87] at hcut87
  have HR87:=Aside0.mk hr87
  have HC87:=Aside0.mk (show rw1.length≤c87 from by rw [hy87,hc87];exact Nat.sub_le_sub_right HRC.out _)
  clear hr87 hi087 hsz87 hc87 hy87 hA87
  replace q87:=eq_true q87
  have q88:(vals.length≤row.length)=True:=eq_true c5
  clear c5
  go_enter Try.func91,Try.ntmps91
  go_upto_region 6 with (first|((with_reducible refine gate_dst (N:=4) rfl ?_);refine box_event ?hg (N:=4) ?hd (cs:=#[.int .i64 n,.string s]) (t:=29) ?hr ?_;(case hd=>rfl);(case hg=>rfl);(case hr=>first|(go_simp;done)|(go_simp;rfl));intro gt hg w1 hbox hb;have Sa:Aside0 (WS w0 w w1 g gt Ar row.length cr (some ad) owns.length co owns Al nl cl L Av cv vals n s):=⟨⟨HI.out.below hb,below_step HX.out hb,FrW.of_below hb,hbox,Kd.R_below HV.out hb,LEN.out⟩⟩;have hct0:w1.cell? ⟨gt,0,none⟩=some (.int .i64 n):=(blk_cell Sa.out.T 0).trans rfl;have hct1:w1.cell? ⟨gt,1,none⟩=some (.string s):=(blk_cell Sa.out.T 1).trans rfl;have hcg0:w1.cell? ⟨g,0,none⟩=some (.slice Ar row.length cr):=(blk_cell Sa.out.I.blk 0).trans rfl;have hcg1:w1.cell? ⟨g,1,none⟩=some (.slice (some ad) owns.length co):=(blk_cell Sa.out.I.blk 1).trans rfl;have hcg2:w1.cell? ⟨g,2,none⟩=some (.slice Al nl cl):=(blk_cell Sa.out.I.blk 2).trans rfl;have hxo:=C3.out ▸ own_bool_at Sa.out.I.owns vals.length C2.out;clear hg hbox hb)|((with_reducible refine gate_callee (f:=107) rfl ?_);(try (refine gate_guard (by rfl) ?_;dsimp only));refine goesL_ (some 9) rfl rfl Try.func107 (by kernel_rfl) rfl #[.agg #[.int .i64 n,.string s]] rfl (by (try simp only [List.map_toArray,List.map_cons,List.map_nil]);first|done|rfl) ?_;(with_reducible refine (impl_Table_known.calls n s kn _ HK.out).mono ?_);rintro e w2 ⟨rfl,hb⟩;refine ⟨_,rfl,?_⟩;have Sb:=Aside0.mk (Sa.out.below hb);clear hct0 hct1 hcg0 hcg1 hcg2 hxo;clear hb Sa;have hct0:w2.cell? ⟨gt,0,none⟩=some (.int .i64 n):=(blk_cell Sb.out.T 0).trans rfl;have hct1:w2.cell? ⟨gt,1,none⟩=some (.string s):=(blk_cell Sb.out.T 1).trans rfl;have hcg0:w2.cell? ⟨g,0,none⟩=some (.slice Ar row.length cr):=(blk_cell Sb.out.I.blk 0).trans rfl;have hcg1:w2.cell? ⟨g,1,none⟩=some (.slice (some ad) owns.length co):=(blk_cell Sb.out.I.blk 1).trans rfl;have hcg2:w2.cell? ⟨g,2,none⟩=some (.slice Al nl cl):=(blk_cell Sb.out.I.blk 2).trans rfl;have hxo:=C3.out ▸ own_bool_at Sb.out.I.owns vals.length C2.out))
  have Sc:=Aside0.mk (Sb.out.below (below_drew (Below.refl _ _)))
  clear Sb
  clear hct0 hct1 hcg0 hcg1 hcg2 hxo
  refine start_ (n:=9) (S:=fun w'=>w'.cell? ⟨g,0,none⟩=some (.slice Ar row.length cr)∧w'.cell? ⟨gt,0,none⟩=some (.int .i64 n)∧w'.cell? ⟨gt,1,none⟩=some (.string s)) (ds:=[]) #[false,false,false,false,false,false,false,false,false] (by kernel_rfl) rfl rfl ⟨(blk_cell Sc.out.I.blk 0).trans rfl,(blk_cell Sc.out.T 0).trans rfl,(blk_cell Sc.out.T 1).trans rfl⟩ (fun hHeld=>?_)
  generalize w2.drew=w3 at Sc hHeld ⊢
  have Sd:=Sc
  clear Sc
  refine pure_ (i:=0) (N:=some 37) (v:=?_) (a':=?_) #[true,false,false,false,false,false,false,false,false] rfl rfl (by kernel_rfl) (fun _ _ _ h=>h) (Or.inl ⟨by rfl,?_⟩) ?_ ?_
  rotate_left
  ·intro w'
   go_simp
   with_reducible rfl
  rotate_left
  ·simp only [Act.put,List.setIfInBounds_toArray,List.set_cons_zero,List.set_cons_succ,i64_w,i32_w]
   rfl
  refine pure_ (i:=1) (N:=some 38) (v:=?_) (a':=?_) #[true,true,false,false,false,false,false,false,false] rfl rfl (by kernel_rfl) (fun _ _ _ h=>h) (Or.inl ⟨by rfl,?_⟩) ?_ ?_
  rotate_left
  ·intro w'
   go_simp
   with_reducible rfl
  rotate_left
  ·simp only [Act.put,List.setIfInBounds_toArray,List.set_cons_zero,List.set_cons_succ,i64_w,i32_w]
   rfl
  refine pure_ (i:=2) (N:=some 39) (v:=?_) (a':=?_) #[true,true,true,false,false,false,false,false,false] rfl rfl (by kernel_rfl) (fun _ _ _ h=>h) (Or.inl ⟨by rfl,?_⟩) ?_ ?_
  rotate_left
  ·intro w'
   go_simp
   with_reducible rfl
  rotate_left
  ·simp only [Act.put,List.setIfInBounds_toArray,List.set_cons_zero,List.set_cons_succ,i64_w,i32_w]
   rfl
  refine pure_ (i:=4) (N:=some 41) (v:=?_) (a':=?_) #[true,true,true,false,true,false,false,false,false] rfl rfl (by kernel_rfl) (fun _ _ _ h=>h) (Or.inl ⟨by rfl,?_⟩) ?_ ?_
  rotate_left
  ·intro w'
   go_simp
   with_reducible rfl
  rotate_left
  ·simp only [Act.put,List.setIfInBounds_toArray,List.set_cons_zero,List.set_cons_succ,i64_w,i32_w]
   rfl
  refine take_ (i:=3) (N:=some 40) (v:=?_) (a':=?_) #[true,true,true,true,true,false,false,false,false] rfl rfl (by kernel_rfl) (fun _ _ _ h=>h) (Or.inl ⟨by rfl,?_⟩) hHeld ?_ ?_
  rotate_left
  ·rintro w' ⟨s0,s1,s2⟩
   go_simp
   with_reducible rfl
  rotate_left
  ·simp only [Act.put,List.setIfInBounds_toArray,List.set_cons_zero,List.set_cons_succ,i64_w,i32_w]
   rfl
  refine pure_ (i:=5) (N:=some 42) (v:=?_) (a':=?_) #[true,true,true,true,true,true,false,false,false] rfl rfl (by kernel_rfl) (fun _ _ _ h=>h) (Or.inl ⟨by rfl,?_⟩) ?_ ?_
  rotate_left
  ·intro w'
   go_simp
   with_reducible rfl
  rotate_left
  ·simp only [Act.put,List.setIfInBounds_toArray,List.set_cons_zero,List.set_cons_succ,i64_w,i32_w]
   rfl
  refine take_ (i:=6) (N:=some 43) (v:=?_) (a':=?_) #[true,true,true,true,true,true,true,false,false] rfl rfl (by kernel_rfl) (fun _ _ _ h=>h) (Or.inl ⟨by rfl,?_⟩) hHeld ?_ ?_
  rotate_left
  ·rintro w' ⟨s0,s1,s2⟩
   go_simp
   with_reducible rfl
  rotate_left
  ·simp only [Act.put,List.setIfInBounds_toArray,List.set_cons_zero,List.set_cons_succ,i64_w,i32_w]
   rfl
  refine one_ (i:=7) (N:=some 44) #[true,true,true,true,true,true,true,true,false] rfl rfl (by kernel_rfl) (by decide) (fun K hK=>?_)
  refine goes_ Try.func62 (by kernel_rfl) rfl #[.slice A87 rw1.length c87,.agg #[.int .i64 n,.string s]] (by rfl) rfl rfl (by simp only [List.map_toArray,List.map_cons,List.map_nil];rfl) ?_
  with_reducible refine (impl_choose.calls k A87 c87 rw1 n s b _ (Kd.C_below HR87.out Sd.out.X) HC87.out HCH.out).mono ?_
  rintro e w4 ⟨rfl,hb⟩
  refine ⟨_,rfl,?_⟩
  have Se:=Aside0.mk (Sd.out.below hb)
  clear hb Sd
  refine hK.out _ _ ⟨(blk_cell Se.out.I.blk 0).trans rfl,(blk_cell Se.out.T 0).trans rfl,(blk_cell Se.out.T 1).trans rfl⟩ (fun hHeld=>?_)
  clear hK K
  refine norm_ (a':=?_) ?_ ?_
  rotate_left
  ·show Act.put _ (some 44) _=_
   simp only [Act.put,List.setIfInBounds_toArray,List.set_cons_zero,List.set_cons_succ,i64_w,i32_w]
   rfl
  refine pure_ (i:=8) (N:=some 7) (v:=?_) (a':=?_) #[true,true,true,true,true,true,true,true,true] rfl rfl (by kernel_rfl) (fun _ _ _ h=>h) (Or.inl ⟨by rfl,?_⟩) ?_ ?_
  rotate_left
  ·intro w'
   go_simp
   with_reducible rfl
  rotate_left
  ·simp only [Act.put,List.setIfInBounds_toArray,List.set_cons_zero,List.set_cons_succ,i64_w,i32_w]
   rfl
  refine done_ (by kernel_rfl) ?_
  clear hHeld
  have hct0:w4.cell? ⟨gt,0,none⟩=some (.int .i64 n):=(blk_cell Se.out.T 0).trans rfl
  have hct1:w4.cell? ⟨gt,1,none⟩=some (.string s):=(blk_cell Se.out.T 1).trans rfl
  have hcg0:w4.cell? ⟨g,0,none⟩=some (.slice Ar row.length cr):=(blk_cell Se.out.I.blk 0).trans rfl
  have hcg1:w4.cell? ⟨g,1,none⟩=some (.slice (some ad) owns.length co):=(blk_cell Se.out.I.blk 1).trans rfl
  have hcg2:w4.cell? ⟨g,2,none⟩=some (.slice Al nl cl):=(blk_cell Se.out.I.blk 2).trans rfl
  have hxo:=C3.out ▸ own_bool_at Se.out.I.owns vals.length C2.out
  go_upto_region 7 with (fail)
  have Sf:=Aside0.mk (Se.out.below (below_drew (Below.refl _ _)))
  clear Se
  clear hct0 hct1 hcg0 hcg1 hcg2 hxo
  refine start_ (n:=14) (S:=fun w'=>w'.cell? ⟨g,2,none⟩=some (.slice Al nl cl)) (ds:=[13]) #[false,false,false,false,false,false,false,false,false,false,false,false,false,false] (by kernel_rfl) rfl rfl ((blk_cell Sf.out.I.blk 2).trans rfl) (fun hHeld=>?_)
  generalize w4.drew=w5 at Sf hHeld ⊢
  have Sg:=Sf
  clear Sf
  refine pure_ (i:=0) (N:=some 45) (v:=?_) (a':=?_) #[true,false,false,false,false,false,false,false,false,false,false,false,false,false] rfl rfl (by kernel_rfl) (fun _ _ _ h=>h) (Or.inl ⟨by rfl,?_⟩) ?_ ?_
  rotate_left
  ·intro w'
   go_simp
   with_reducible rfl
  rotate_left
  ·simp only [Act.put,List.setIfInBounds_toArray,List.set_cons_zero,List.set_cons_succ,i64_w,i32_w]
   rfl
  refine pure_ (i:=1) (N:=some 46) (v:=?_) (a':=?_) #[true,true,false,false,false,false,false,false,false,false,false,false,false,false] rfl rfl (by kernel_rfl) (fun _ _ _ h=>h) (Or.inl ⟨by rfl,?_⟩) ?_ ?_
  rotate_left
  ·intro w'
   go_simp
   with_reducible rfl
  rotate_left
  ·simp only [Act.put,List.setIfInBounds_toArray,List.set_cons_zero,List.set_cons_succ,i64_w,i32_w]
   rfl
  refine pure_ (i:=2) (N:=some 47) (v:=?_) (a':=?_) #[true,true,true,false,false,false,false,false,false,false,false,false,false,false] rfl rfl (by kernel_rfl) (fun _ _ _ h=>h) (Or.inl ⟨by rfl,?_⟩) ?_ ?_
  rotate_left
  ·intro w'
   go_simp
   with_reducible rfl
  rotate_left
  ·simp only [Act.put,List.setIfInBounds_toArray,List.set_cons_zero,List.set_cons_succ,i64_w,i32_w]
   rfl
  refine pure_ (i:=3) (N:=some 48) (v:=?_) (a':=?_) #[true,true,true,true,false,false,false,false,false,false,false,false,false,false] rfl rfl (by kernel_rfl) (fun _ _ _ h=>h) (Or.inl ⟨by rfl,?_⟩) ?_ ?_
  rotate_left
  ·intro w'
   go_simp
   with_reducible rfl
  rotate_left
  ·simp only [Act.put,List.setIfInBounds_toArray,List.set_cons_zero,List.set_cons_succ,i64_w,i32_w]
   rfl
  refine pure_ (i:=5) (N:=some 50) (v:=?_) (a':=?_) #[true,true,true,true,false,true,false,false,false,false,false,false,false,false] rfl rfl (by kernel_rfl) (fun _ _ _ h=>h) (Or.inl ⟨by rfl,?_⟩) ?_ ?_
  rotate_left
  ·intro w'
   go_simp
   with_reducible rfl
  rotate_left
  ·simp only [Act.put,List.setIfInBounds_toArray,List.set_cons_zero,List.set_cons_succ,i64_w,i32_w]
   rfl
  refine pure_ (i:=7) (N:=some 52) (v:=?_) (a':=?_) #[true,true,true,true,false,true,false,true,false,false,false,false,false,false] rfl rfl (by kernel_rfl) (fun _ _ _ h=>h) (Or.inl ⟨by rfl,?_⟩) ?_ ?_
  rotate_left
  ·intro w'
   go_simp
   with_reducible rfl
  rotate_left
  ·simp only [Act.put,List.setIfInBounds_toArray,List.set_cons_zero,List.set_cons_succ,i64_w,i32_w]
   rfl
  refine take_ (i:=4) (N:=some 49) (v:=?_) (a':=?_) #[true,true,true,true,true,true,false,true,false,false,false,false,false,false] rfl rfl (by kernel_rfl) (fun _ _ _ h=>h) (Or.inl ⟨by rfl,?_⟩) hHeld ?_ ?_
  rotate_left
  ·intro w' s0
   go_simp
   with_reducible rfl
  rotate_left
  ·simp only [Act.put,List.setIfInBounds_toArray,List.set_cons_zero,List.set_cons_succ,i64_w,i32_w]
   rfl
  refine one_ (i:=6) (N:=some 51) #[true,true,true,true,true,true,true,true,false,false,false,false,false,false] rfl rfl (by kernel_rfl) (by decide) (fun K hK=>?_)
  refine goes_ Try.func115 (by kernel_rfl) rfl #[.slice Av vals.length cv] (by rfl) rfl rfl (by simp only [List.map_toArray,List.map_cons,List.map_nil];rfl) ?_
  with_reducible refine (impl_copyInts.calls Av cv vals c _ (Kd.R_reads' Sg.out.V).2.2 (Kd.R_reads' Sg.out.V).2.1 HCP.out).mono ?_
  rintro e w6 ⟨v_,rfl,ho,hb⟩
  refine ⟨_,rfl,?_⟩
  have RO:=Aside0.mk ho
  have Sh:=Aside0.mk (Sg.out.below hb)
  have LO:=Aside0.mk Sg.out.I.list
  have HXO:=Aside0.mk Sg.out.X.size
  have HBO:=Aside0.mk hb
  clear ho hb Sg
  obtain ⟨A6,c6,e6⟩:=Kd.R_slice RO.out
  subst e6
  refine hK.out _ _ ((blk_cell Sh.out.I.blk 2).trans rfl) (fun hHeld=>?_)
  clear hK K
  refine norm_ (a':=?_) ?_ ?_
  rotate_left
  ·show Act.put _ (some 51) _=_
   simp only [Act.put,List.setIfInBounds_toArray,List.set_cons_zero,List.set_cons_succ,i64_w,i32_w]
   rfl
  refine pure_ (i:=8) (N:=some 53) (v:=?_) (a':=?_) #[true,true,true,true,true,true,true,true,true,false,false,false,false,false] rfl rfl (by kernel_rfl) (fun _ _ _ h=>h) (Or.inl ⟨by rfl,?_⟩) ?_ ?_
  rotate_left
  ·intro w'
   go_simp
   with_reducible rfl
  rotate_left
  ·simp only [Act.put,List.setIfInBounds_toArray,List.set_cons_zero,List.set_cons_succ,i64_w,i32_w]
   rfl
  refine one_ (i:=9) (N:=some 54) #[true,true,true,true,true,true,true,true,true,true,false,false,false,false] rfl rfl (by kernel_rfl) (by decide) (fun K hK=>?_)
  refine value_ (w1:=?_) (v:=?_) (by rfl) rfl ?_ ?_
  rotate_left 2
  ·go_simp
   constructor
   ·rfl
   ·rfl
  refine hK.out _ _ ((blk_cell (blk_alloc Sh.out.I.blk _) 2).trans rfl) (fun hHeld=>?_)
  clear hK K
  refine norm_ (a':=?_) ?_ ?_
  rotate_left
  ·show Act.put _ (some 54) _=_
   simp only [Act.put,List.setIfInBounds_toArray,List.set_cons_zero,List.set_cons_succ,i64_w,i32_w]
   rfl
  refine one_ (i:=10) (N:=some 55) #[true,true,true,true,true,true,true,true,true,true,true,false,false,false] rfl rfl (by kernel_rfl) (by decide) (fun K hK=>?_)
  refine Kd.S_append_step k108 (w0:=w0) w0.heap.size (by rfl) (.tmp 49) (.tmp 54) 62 108 (.agg #[.slice none 0 0,.int .i64 0]) 32 rfl Try.underlying62 info108 rfl (by decide) (by omega) (.slice Al nl cl) L (⟨c,b⟩:S108) [.slice A6 c.length c6,.int .i64 b] (fun _=>True) (fun k=>w5.heap.size≤k∧some k≠(Value.slice Al nl cl).ownBlock) rfl rfl ?aP (fun _ hk=>⟨trivial,hk.2⟩) ?aF ?aO ?aB ?aS ?aL ?_
  (case aP=>exact k108_mkM _ _ _ (⟨c,b⟩:S108) (inner_ok Sh.out.I.list HBO.out.size HXO.out RO.out))
  (case aB=>exact Sh.out.X)
  (case aF=>exact (fun _ _=>trivial))
  (case aO=>exact list_old LO.out HBO.out)
  (case aS=>exact below_size Sh.out.X)
  (case aL=>have:=HLL.out;omega)
  intro v7 w7 ho hbx hg hat
  rw [show L ++ [(⟨c,b⟩:S108)]=L1 from YL.out.symm] at ho
  obtain ⟨A7,c7,e7⟩:=Kd.S_slice ho
  obtain ⟨n7,hn7⟩:∃ z,z=L1.length:=⟨_,rfl⟩
  rw [← hn7] at e7
  subst e7
  have Si:=Aside0.mk (Sh.out.put ho hn7 hbx hg)
  have BI:=Aside0.mk (blk_grown Sh.out.I.blk hg (Kd.S_ne Sh.out.I.list Sh.out.I.blk (by decide)))
  clear ho hn7 hbx hg hat Sh RO LO HXO HBO
  refine hK.out _ _ ((blk_cell BI.out 2).trans rfl) (fun hHeld=>?_)
  clear hK K
  refine norm_ (a':=?_) ?_ ?_
  rotate_left
  ·show Act.put _ (some 55) _=_
   simp only [Act.put,List.setIfInBounds_toArray,List.set_cons_zero,List.set_cons_succ,i64_w,i32_w]
   rfl
  refine pure_ (i:=11) (N:=some 56) (v:=?_) (a':=?_) #[true,true,true,true,true,true,true,true,true,true,true,true,false,false] rfl rfl (by kernel_rfl) (fun _ _ _ h=>h) (Or.inl ⟨by rfl,?_⟩) ?_ ?_
  rotate_left
  ·intro w'
   go_simp
   with_reducible rfl
  rotate_left
  ·simp only [Act.put,List.setIfInBounds_toArray,List.set_cons_zero,List.set_cons_succ,i64_w,i32_w]
   rfl
  refine pure_ (i:=12) (N:=some 57) (v:=?_) (a':=?_) #[true,true,true,true,true,true,true,true,true,true,true,true,true,false] rfl rfl (by kernel_rfl) (fun _ _ _ h=>h) (Or.inl ⟨by rfl,?_⟩) ?_ ?_
  rotate_left
  ·intro w'
   go_simp
   with_reducible rfl
  rotate_left
  ·simp only [Act.put,List.setIfInBounds_toArray,List.set_cons_zero,List.set_cons_succ,i64_w,i32_w]
   rfl
  refine last_ (i:=13) (N:=none) #[true,true,true,true,true,true,true,true,true,true,true,true,true,true] rfl rfl (by kernel_rfl) (by decide) (fun K hK=>?_)
  have hs7:w7.cell? ⟨g,2,none⟩=some (.slice Al nl cl):=(blk_cell BI.out 2).trans rfl
  have hfs7:=blk_frozen BI.out 2
  refine skip_ (w1:=?_) (by rfl) rfl ?_ ?_
  rotate_left
  ·go_simp
   rfl
  clear hs7 hfs7
  refine hK.out _ _ ?_
  clear hK K
  refine done_ (by kernel_rfl) ?_
  clear hHeld
  generalize w7.setCell ⟨g,2,none⟩ (.slice A7 n7 c7)=w8 at Si ⊢
  clear BI
  have hct0:w8.cell? ⟨gt,0,none⟩=some (.int .i64 n):=(blk_cell Si.out.T 0).trans rfl
  have hct1:w8.cell? ⟨gt,1,none⟩=some (.string s):=(blk_cell Si.out.T 1).trans rfl
  have hcg0:w8.cell? ⟨g,0,none⟩=some (.slice Ar row.length cr):=(blk_cell Si.out.I.blk 0).trans rfl
  have hcg1:w8.cell? ⟨g,1,none⟩=some (.slice (some ad) owns.length co):=(blk_cell Si.out.I.blk 1).trans rfl
  have hcg2:w8.cell? ⟨g,2,none⟩=some (.slice A7 n7 c7):=(blk_cell Si.out.I.blk 2).trans rfl
  have hxo:=C3.out ▸ own_bool_at Si.out.I.owns vals.length C2.out
  go_wp2_with (first|((with_reducible refine gate_callee (f:=108) rfl ?_);(try (refine gate_guard (by rfl) ?_;dsimp only));refine goesL_ (some 61) rfl rfl Try.func108 (by kernel_rfl) rfl #[.agg #[.int .i64 n,.string s],.int .i64 b] rfl (by (try simp only [List.map_toArray,List.map_cons,List.map_nil]);first|done|rfl) ?_;(with_reducible refine (impl_Table_half.calls n s b n0 s0 _ H0.out).mono ?_);rintro e w9 ⟨rfl,hb⟩;refine ⟨_,rfl,?_⟩;have Sj:=Aside0.mk (Si.out.below hb);clear hct0 hct1 hcg0 hcg1 hcg2 hxo;clear hb Si;have hct0:w9.cell? ⟨gt,0,none⟩=some (.int .i64 n):=(blk_cell Sj.out.T 0).trans rfl;have hct1:w9.cell? ⟨gt,1,none⟩=some (.string s):=(blk_cell Sj.out.T 1).trans rfl;have hcg0:w9.cell? ⟨g,0,none⟩=some (.slice Ar row.length cr):=(blk_cell Sj.out.I.blk 0).trans rfl;have hcg1:w9.cell? ⟨g,1,none⟩=some (.slice (some ad) owns.length co):=(blk_cell Sj.out.I.blk 1).trans rfl;have hcg2:w9.cell? ⟨g,2,none⟩=some (.slice A7 n7 c7):=(blk_cell Sj.out.I.blk 2).trans rfl;have hxo:=C3.out ▸ own_bool_at Sj.out.I.owns vals.length C2.out)|((with_reducible refine gate_callee (f:=115) rfl ?_);(try (refine gate_guard (by rfl) ?_;dsimp only));refine goesL_ (some 63) rfl rfl Try.func115 (by kernel_rfl) rfl #[.slice Av vals.length cv] rfl (by (try simp only [List.map_toArray,List.map_cons,List.map_nil]);first|done|rfl) ?_;(with_reducible refine (impl_copyInts.calls Av cv vals c _ (Kd.R_reads' Sj.out.V).2.2 (Kd.R_reads' Sj.out.V).2.1 HCP.out).mono ?_);rintro e w10 ⟨v_,rfl,ho,hb⟩;refine ⟨_,rfl,?_⟩;have RO3:=Aside0.mk ho;have HB_RO3:=Aside0.mk hb;clear ho hb)|((with_reducible refine gate_builtin (b := .append) (xs:=#[.tmp 63,.tmp 65]) rfl ?_);(try (refine gate_guard (by rfl) ?_;dsimp only));at_builtin;refine Kd.R_append (Kd.int .i64) (w0:=w9) w9.heap.size rfl (.tmp 63) (.tmp 65) 33 3 (.int .i64 0) 8 rfl Try.underlying33 info3 rfl (by decide) (by decide) _ c b [.int .i64 b] (fun _=>True) (fun _=>False) rfl rfl rfl (fun _ hk=>hk.elim) (fun _ _=>trivial) RO3.out HB_RO3.out HB_RO3.out.size (by have:=HL.out;omega) ?_;intro v_ w11 ho hbx hg hat;rw [show c ++ [b]=y0 from Y0.out.symm] at ho;have HRk:=Aside0.mk (Kd.R_lower ho Sj.out.X.size);clear ho hg hat HB_RO3 RO3;obtain ⟨Ak,ck,ek⟩:=Kd.R_slice HRk.out;subst ek;have Sk:=Aside0.mk (Sj.out.below hbx);clear hct0 hct1 hcg0 hcg1 hcg2 hxo;clear hbx Sj;have hct0:w11.cell? ⟨gt,0,none⟩=some (.int .i64 n):=(blk_cell Sk.out.T 0).trans rfl;have hct1:w11.cell? ⟨gt,1,none⟩=some (.string s):=(blk_cell Sk.out.T 1).trans rfl;have hcg0:w11.cell? ⟨g,0,none⟩=some (.slice Ar row.length cr):=(blk_cell Sk.out.I.blk 0).trans rfl;have hcg1:w11.cell? ⟨g,1,none⟩=some (.slice (some ad) owns.length co):=(blk_cell Sk.out.I.blk 1).trans rfl;have hcg2:w11.cell? ⟨g,2,none⟩=some (.slice A7 n7 c7):=(blk_cell Sk.out.I.blk 2).trans rfl;have hxo:=C3.out ▸ own_bool_at Sk.out.I.owns vals.length C2.out)|((with_reducible refine gate_callee (f:=91) rfl ?_);(try (refine gate_guard (by rfl) ?_;dsimp only));refine goesL_ (some 67) rfl rfl Try.func91 (by kernel_rfl) rfl #[.pointer (some ⟨g,0,none⟩),.agg #[.int .i64 n0,.string s0],.slice Ak y0.length ck] rfl (by (try simp only [List.map_toArray,List.map_cons,List.map_nil]);first|done|rfl) ?_;(with_reducible refine (ih w0 row Ar cr HRW.out HRC.out g owns n0 s0 L1 Ak y0.length ck y0 R _ rfl (Sk.out.x) Sk.out.X HRk.out HB0.out).mono ?_);rintro e w12 ⟨rfl,hI,hB,hF⟩;refine ⟨_,rfl,?_⟩;have FIN:=Aside0.mk (And.intro hI (And.intro hB (Sk.out.F.trans hF)));clear hI hB hF))
  refine bodyPost_end (results_none rfl _ _ _) rfl ?_
  exact ⟨rfl,FIN.out.1,FIN.out.2.1,FIN.out.2.2⟩
end Go.Proofs.Ytlpfmhikahlcoaa.G
namespace Go.Proofs.Ytlpfmhikahlcoaa.G
open Go.Proofs.Ytlpfmhikahlcoaa.Sh
open Go.RowKit Go.Proofs.YtlpfmhikahlcoaaW.PrintWords Go.Proofs.YtlpfmhikahlcoaaW.PrintLast Go.Proofs.YtlpfmhikahlcoaaW.PrintMore
attribute [local go_sem] max2_int min2_int max_two min_two max_three min_three max_four min_four
set_option linter.unusedVariables false
set_option linter.unusedSimpArgs false
def impl_Decide.f (k:Nat) (l0:List Bool) (a1_0:Int) (a1_1:ByteArray):Option (Int × Bool):=(impl_rowed.f k l0 a1_0 a1_1).bind fun A6=>(if A6=true then ((impl_decide.f k l0 a1_0 a1_1).bind fun A4=>(some (A4,true))) else (some (0,false)))
set_option maxHeartbeats 8000000 in
set_option maxRecDepth 100000 in
theorem impl_Decide.calls (k:Nat) (A0:Option Addr) (c0:Nat) (l0:List Bool) (a1_0:Int) (a1_1:ByteArray) (r1:Int) (r2:Bool) (w:World) (hr0:Kd.C Kd.bool w A0 l0.length l0) (hc0:l0.length≤c0) (h:impl_Decide.f k l0 a1_0 a1_1=some (r1,r2)) :
  Calls Try.prog 19 #[.slice A0 l0.length c0,.agg #[.int .i64 a1_0,.string a1_1]] w fun e w'=>e = .returned (.tuple #[.int .i64 r1,.bool r2])∧Below w.heap.size w w':=by
 have hu29:=Try.underlying29;have HR0:=Aside0.mk hr0;have HC0:=Aside0.mk hc0;clear hr0 hc0;have HB:=Aside0.mk (Below.refl w.heap.size w);have H:((impl_rowed.f k l0 a1_0 a1_1).bind fun A6=>(if A6=true then ((impl_decide.f k l0 a1_0 a1_1).bind fun A4=>(some (A4,true))) else (some (0,false))))=some (r1,r2):=h;clear h;replace H:=ob H;obtain ⟨A6,A30,H⟩:=H;replace H:(if A6=true then ((impl_decide.f k l0 a1_0 a1_1).bind fun A4=>(some (A4,true))) else (some (0,false)))=some (r1,r2):=H;have A3:=Aside0.mk A30;clear A30
 by_cases c4:A6=true
 ·subst c4
  have H1:((impl_decide.f k l0 a1_0 a1_1).bind fun A4=>(some (A4,true)))=some (r1,r2):=by rw [if_pos rfl] at H;exact H
  clear H;have H:=H1;clear H1;replace H:=ob H;obtain ⟨A4,A50,H⟩:=H;replace H:(some (A4,true))=some (r1,r2):=H;have A5:=Aside0.mk A50;clear A50;simp only [Option.some.injEq,Prod.mk.injEq] at H;obtain ⟨rfl,rfl⟩:=H
  go_enter Try.func19,Try.ntmps19
  go_wp2_with (first|((with_reducible refine gate_dst (N:=3) rfl ?_);refine bx (N:=3) (cs:=#[.int .i64 a1_0,.string a1_1]) (t:=29) ?_;intro A2 hg w6 hbox hb;have A1:=Aside0.mk (hbox);have A7:=Aside0.mk ((by rw [hg];exact (below_size (tb HB)):w.heap.size≤A2));have A8:=Aside0.mk ((by rw [hg];exact (below_size (tb HB)):w.heap.size≤A2));replace HB:=Aside0.mk (below_step (tb HB) hb);clear hb hbox hg;have hcz7__:=c2_ A1;have hfz7__:=f_ A1)|((with_reducible refine gate_callee (f:=59) rfl ?_);refine goesL_ (some 8) rfl rfl Try.func59 (by kernel_rfl) rfl #[.slice A0 l0.length c0,.agg #[.int .i64 a1_0,.string a1_1]] rfl ml ?_;(with_reducible refine (impl_rowed.calls k _ _ l0 a1_0 a1_1 true _ ?side1 ?side2 A3.out).mono ?_);(case side1=>exact cw (Kd.C_below HR0.out HB.out));(case side2=>exact HC0.out);rintro e w8 ⟨rfl,hb⟩;refine ⟨_,rfl,?_⟩;replace A1:=Aside0.mk (blk_below (g:=A2) (o := .cells #[.int .i64 a1_0,.string a1_1] 29 (0,0)) (dr A1) hb);replace HB:=Aside0.mk (below_step (tb HB) hb);(try clear hb);(try clear hb2);(try clear hk);(try clear hi);have hcz9__:=c2_ A1;have hfz9__:=f_ A1)|((with_reducible refine gate_callee (f:=60) rfl ?_);refine goesL_ (some 12) rfl rfl Try.func60 (by kernel_rfl) rfl #[.slice A0 l0.length c0,.agg #[.int .i64 a1_0,.string a1_1]] rfl ml ?_;(with_reducible refine (impl_decide.calls k _ _ l0 a1_0 a1_1 A4 _ ?side1 ?side2 A5.out).mono ?_);(case side1=>exact cw (Kd.C_below HR0.out HB.out));(case side2=>exact HC0.out);rintro e w10 ⟨rfl,hb⟩;refine ⟨_,rfl,?_⟩;replace A1:=Aside0.mk (blk_below (g:=A2) (o := .cells #[.int .i64 a1_0,.string a1_1] 29 (0,0)) (dr A1) hb);replace HB:=Aside0.mk (below_step (tb HB) hb);(try clear hb);(try clear hb2);(try clear hk);(try clear hi)));go_ret2;exact ⟨er,tb HB⟩
 ·replace c4:=Bool.eq_false_iff.mpr c4;subst c4
  have H1:(some (0,false))=some (r1,r2):=by rw [if_neg (show ¬ (false=true) by decide)] at H;exact H
  clear H;have H:=H1;clear H1;simp only [Option.some.injEq,Prod.mk.injEq] at H;obtain ⟨rfl,rfl⟩:=H
  go_enter Try.func19,Try.ntmps19
  go_wp2_with (first|((with_reducible refine gate_dst (N:=3) rfl ?_);refine bx (N:=3) (cs:=#[.int .i64 a1_0,.string a1_1]) (t:=29) ?_;intro A2 hg w11 hbox hb;have A1:=Aside0.mk (hbox);have A7:=Aside0.mk ((by rw [hg];exact (below_size (tb HB)):w.heap.size≤A2));have A8:=Aside0.mk ((by rw [hg];exact (below_size (tb HB)):w.heap.size≤A2));replace HB:=Aside0.mk (below_step (tb HB) hb);clear hb hbox hg;have hcz12__:=c2_ A1;have hfz12__:=f_ A1)|((with_reducible refine gate_callee (f:=59) rfl ?_);refine goesL_ (some 8) rfl rfl Try.func59 (by kernel_rfl) rfl #[.slice A0 l0.length c0,.agg #[.int .i64 a1_0,.string a1_1]] rfl ml ?_;(with_reducible refine (impl_rowed.calls k _ _ l0 a1_0 a1_1 false _ ?side1 ?side2 A3.out).mono ?_);(case side1=>exact cw (Kd.C_below HR0.out HB.out));(case side2=>exact HC0.out);rintro e w13 ⟨rfl,hb⟩;refine ⟨_,rfl,?_⟩;replace A1:=Aside0.mk (blk_below (g:=A2) (o := .cells #[.int .i64 a1_0,.string a1_1] 29 (0,0)) (dr A1) hb);replace HB:=Aside0.mk (below_step (tb HB) hb);(try clear hb);(try clear hb2);(try clear hk);(try clear hi)));go_ret2;exact ⟨er,tb HB⟩
theorem nil_S {w:World} {base:Nat} {A:Option Addr} {n c:Nat} (h:Kd.R k108 108 w base (fun _=>True) (.slice A n c) []):Kd.S k108 108 w base (fun _=>True) (.slice A n c) []:=by
 obtain ⟨h0,inner,ho,hr⟩:=h;exact ⟨fun _=>0,h0,inner,ho,⟨hr.1,fun j p hj=>by simp at hj⟩⟩
def impl_Win.f (k:Nat) (l0:List Bool) (a1_0:Int) (a1_1:ByteArray):Option (List (S108) × Int × Bool) :=
 (impl_Decide.f k l0 a1_0 a1_1).bind fun bt=>if bt.2=true then (impl_Owner.f k l0 bt.1).bind fun owns=>(wkF k l0 owns a1_0 a1_1 [] []).bind fun L=>some (L,bt.1,true) else some ([],0,false)
set_option maxHeartbeats 8000000 in
set_option maxRecDepth 100000 in
theorem impl_Win.calls (k:Nat) (A0:Option Addr) (c0:Nat) (l0:List Bool) (a1_0:Int) (a1_1:ByteArray) (r1:List (S108)) (r2:Int) (r3:Bool) (w:World) (hr0:Kd.C Kd.bool w A0 l0.length l0) (hc0:l0.length≤c0) (h:impl_Win.f k l0 a1_0 a1_1=some (r1,r2,r3)) :
  Calls Try.prog 46 #[.slice A0 l0.length c0,.agg #[.int .i64 a1_0,.string a1_1]] w fun e w'=>∃ v0_:Value,e = .returned (.tuple #[v0_,.int .i64 r2,.bool r3])∧Kd.S k108 108 w' w.heap.size (fun _=>True) v0_ r1∧Below w.heap.size w w':=by
 have HR0:=Aside0.mk hr0;have HC0:=Aside0.mk hc0;clear hr0 hc0;unfold impl_Win.f at h;obtain ⟨⟨v,t⟩,hd,h⟩:=Option.bind_eq_some_iff.1 h;have HD:=Aside0.mk hd;clear hd
 cases t with
 | false =>
  dsimp only at h
  rw [if_neg (by decide)] at h;simp only [Option.some.injEq,Prod.mk.injEq] at h;obtain ⟨rfl,rfl,rfl⟩:=h
  go_enter Try.func46,Try.ntmps46
  go_wp2_with (first|((with_reducible refine gate_dst (N:=3) rfl ?_);refine bx (N:=3) (cs:=#[.int .i64 a1_0,.string a1_1]) (t:=29) ?_;intro gt hg w1 hbox hb;have BTa:=Aside0.mk hbox;have HXa:=Aside0.mk hb;obtain ⟨hct0,hct1⟩:=c2_ BTa;clear hg hbox hb)|((with_reducible refine gate_callee (f:=19) rfl ?_);(try (refine gate_guard (by rfl) ?_;dsimp only));refine goesL_ (some 13) rfl rfl Try.func19 (by kernel_rfl) rfl #[.slice A0 l0.length c0,.agg #[.int .i64 a1_0,.string a1_1]] rfl ml ?_;(with_reducible refine (impl_Decide.calls k A0 c0 l0 a1_0 a1_1 v false _ (Kd.C_below HR0.out HXa.out) HC0.out HD.out).mono ?_);rintro e w2 ⟨rfl,hb⟩;refine ⟨_,rfl,?_⟩;have HXb:=Aside0.mk (below_step HXa.out hb);have BTb:=Aside0.mk (blk_below BTa.out hb);clear hct0 hct1;clear hb HXa BTa;obtain ⟨hct0,hct1⟩:=c2_ BTb));go_ret3;exact ⟨.slice none 0 0,rfl,Kd.S_nil _ _ _ _ _,HXb.out⟩
 | true =>
 dsimp only at h
 rw [if_pos rfl] at h;obtain ⟨owns,hw,h⟩:=Option.bind_eq_some_iff.1 h;obtain ⟨L,hl,h⟩:=Option.bind_eq_some_iff.1 h;simp only [Option.some.injEq,Prod.mk.injEq] at h;obtain ⟨rfl,rfl,rfl⟩:=h;have HW:=Aside0.mk hw;have HL:=Aside0.mk hl;clear hw hl
 go_enter Try.func46,Try.ntmps46
 go_wp2_with (first|((with_reducible refine gate_dst (N:=3) rfl ?_);refine bx (N:=3) (cs:=#[.int .i64 a1_0,.string a1_1]) (t:=29) ?_;intro gt hg w1 hbox hb;have BTa:=Aside0.mk hbox;have HXa:=Aside0.mk hb;obtain ⟨hct0,hct1⟩:=c2_ BTa;clear hg hbox hb)|((with_reducible refine gate_callee (f:=19) rfl ?_);(try (refine gate_guard (by rfl) ?_;dsimp only));refine goesL_ (some 13) rfl rfl Try.func19 (by kernel_rfl) rfl #[.slice A0 l0.length c0,.agg #[.int .i64 a1_0,.string a1_1]] rfl ml ?_;(with_reducible refine (impl_Decide.calls k A0 c0 l0 a1_0 a1_1 v true _ (Kd.C_below HR0.out HXa.out) HC0.out HD.out).mono ?_);rintro e w2 ⟨rfl,hb⟩;refine ⟨_,rfl,?_⟩;have HXb:=Aside0.mk (below_step HXa.out hb);have BTb:=Aside0.mk (blk_below BTa.out hb);clear hct0 hct1;clear hb HXa BTa;obtain ⟨hct0,hct1⟩:=c2_ BTb)|((with_reducible refine gate_callee (f:=90) rfl ?_);(try (refine gate_guard (by rfl) ?_;dsimp only));refine goesL_ (some 21) rfl rfl Try.func90 (by kernel_rfl) rfl #[.slice A0 l0.length c0,.int .i64 v] rfl ml ?_;(with_reducible refine (impl_Owner.calls k A0 c0 l0 v owns _ (Kd.C_below HR0.out HXb.out) HC0.out HW.out).mono ?_);rintro e w3 ⟨v_,rfl,ho,hb⟩;refine ⟨_,rfl,?_⟩;have HO:=Aside0.mk (Kd.R_lower ho HXb.out.size);clear ho;have HXc:=Aside0.mk (below_step HXb.out hb);have BTc:=Aside0.mk (blk_below BTb.out hb);clear hct0 hct1;clear hb HXb BTb;obtain ⟨hct0,hct1⟩:=c2_ BTc;obtain ⟨Ao,co,eo⟩:=Kd.R_slice HO.out;subst eo)|((with_reducible refine gate_dst (N:=22) rfl ?_);refine Kd.R_lit k108 _ 108 ?hg (N:=22) ?hd (xs:=([]:List S108)) (inner:=[]) (ok:=fun _=>True) (okp:=fun _=>True) ?hr ?hp (fun _ hk=>hk) trivial (Below.refl _ _) (Nat.le_refl _) (by simp) ?_;(case hd=>rfl);(case hg=>rfl);(case hr=>first|(go_simp;done)|(go_simp;rfl));(case hp=>exact (Reps.none _ _));intro v22 w4 ho hb hg_ hnew_;clear hg_ hnew_;have HO2:=Aside0.mk (Kd.R_below HO.out hb);have HS4:=Aside0.mk (Kd.R_lower ho HXc.out.size);clear ho HO;have HXd:=Aside0.mk (below_step HXc.out hb);have BTd:=Aside0.mk (blk_below BTc.out hb);clear hct0 hct1;clear hb HXc BTc;obtain ⟨hct0,hct1⟩:=c2_ BTd;obtain ⟨Al,cl,el⟩:=Kd.R_slice HS4.out;subst el)|((with_reducible refine gate_dst (N:=24) rfl ?_);refine bx (N:=24) (cs:=#[.slice A0 l0.length c0,.slice Ao owns.length co,.slice Al ([]:List S108).length cl]) (t:=104) ?_;intro g hg w5 hbox hb;have BG:=Aside0.mk hbox;have GW:=Aside0.mk (show w.heap.size≤g by rw [hg];exact HXd.out.size);have HO3:=Aside0.mk (Kd.R_below HO2.out hb);have HS5:=Aside0.mk (Kd.R_below HS4.out hb);clear hg hbox HO2 HS4;have HXe:=Aside0.mk (below_step HXd.out hb);have BTe:=Aside0.mk (blk_below BTd.out hb);clear hct0 hct1;clear hb HXd BTd;obtain ⟨hct0,hct1⟩:=c2_ BTe));refine (wk.calls k w l0 A0 c0 HR0.out HC0.out g owns a1_0 a1_1 [] none 0 0 [] L _ rfl ⟨Ao,co,Al,cl,⟨BG.out,HO3.out,nil_S HS5.out,GW.out⟩⟩ HXe.out (Kd.R_nil _ _ _ _ _) HL.out).mono ?_;rintro e w6 ⟨rfl,hI,hb,hF⟩;obtain ⟨Ao6,co6,Al6,cl6,hI⟩:=hI;have HI:=Aside0.mk hI;have HB9:=Aside0.mk hb;have HL9:=Aside0.mk hI.list;have hcg2:w6.cell? ⟨g,2,none⟩=some (.slice Al6 L.length cl6):=(blk_cell HI.out.blk 2).trans rfl;clear hI hb hF hct0 hct1 HXe BTe BG HO3 HS5;go_wp2;go_ret3;exact ⟨_,rfl,HL9.out,HB9.out⟩
def laws_at.f (l0:List Int) (a1:Int):Option (Int):=if a1 < (l0.length:Int) then (if 0≤a1 then (some (wrap64 (rd l0 a1))) else (none)) else (some (Int.tmod (wrap64 ((wrap64 (a1 * 7)) + (l0.length:Int))) 256))
set_option maxHeartbeats 8000000 in
set_option maxRecDepth 100000 in
theorem laws_at.calls (A0:Option Addr) (c0:Nat) (l0:List Int) (a1:Int) (r:Int) (w:World) (hr0:Kd.C (Kd.int .u8) w A0 l0.length l0) (hc0:l0.length≤c0) (h:laws_at.f l0 a1=some r) :
  Calls Try.prog 54 #[.slice A0 l0.length c0,.int .i64 a1] w fun e w'=>e = .returned (.int .i64 r)∧Drawn0 w w':=by
 have HR0:=Aside0.mk hr0;have HC0:=Aside0.mk hc0;clear hr0 hc0;have H:(if a1 < (l0.length:Int) then (if 0≤a1 then (some (wrap64 (rd l0 a1))) else (none)) else (some (Int.tmod (wrap64 ((wrap64 (a1 * 7)) + (l0.length:Int))) 256)))=some r:=h;clear h
 by_cases c3:a1 < (l0.length:Int)
 ·rw [if_pos c3] at H;have c3b0:decide (a1 < (l0.length:Int))=true:=decide_eq_true c3;clear c3
  by_cases c4:0≤a1
  ·rw [if_pos c4] at H;have c4b0:decide (0≤a1)=true:=decide_eq_true c4;clear c4;obtain rfl:=os H;have p101:0≤(a1:Int):=od;have q101:a1 < (l0.length:Int):=od;obtain ⟨ad101,e101,hx101_0⟩:=Kd.at_int HR0.out a1 p101 q101;cases e101;replace p101:=eq_true p101;replace q101:=eq_true q101
   go_enter Try.func54,Try.ntmps54
   go_wp2;go_ret;exact ⟨e1,dn⟩
  ·rw [if_neg c4] at H;exact absurd H (by simp)
 ·rw [if_neg c3] at H;have c3b0:decide (a1 < (l0.length:Int))=false:=decide_eq_false c3;clear c3;obtain rfl:=os H
  go_enter Try.func54,Try.ntmps54
  go_wp2;go_ret;exact ⟨e1,dn⟩
def laws_big.f (l0:List Int):Option (Bool):=some (decide ((l0.length:Int) > 1048576))
set_option maxHeartbeats 8000000 in
set_option maxRecDepth 100000 in
theorem laws_big.calls (A0:Option Addr) (c0:Nat) (l0:List Int) (r:Bool) (w:World) (hr0:Kd.C (Kd.int .u8) w A0 l0.length l0) (hc0:l0.length≤c0) (h:laws_big.f l0=some r) :
  Calls Try.prog 42 #[.slice A0 l0.length c0] w fun e w'=>e = .returned (.bool r)∧Drawn0 w w':=by
 have HR0:=Aside0.mk hr0;have HC0:=Aside0.mk hc0;clear hr0 hc0;have H:(some (decide ((l0.length:Int) > 1048576)))=some r:=h;clear h;obtain rfl:=os H
 go_enter Try.func42,Try.ntmps42
 go_wp2;go_ret;exact ⟨e1,dn⟩
def spec_l01In.f (a0:Int) (a1:Int) (a2:Int):Option (Bool):=if a0 ≥ a1 then (some (decide (a0≤a2))) else (some false)
set_option maxHeartbeats 8000000 in
set_option maxRecDepth 100000 in
theorem spec_l01In.calls (a0:Int) (a1:Int) (a2:Int) (r:Bool) (w:World) (h:spec_l01In.f a0 a1 a2=some r) :
  Calls Try.prog 63 #[.int .i64 a0,.int .i64 a1,.int .i64 a2] w fun e w'=>e = .returned (.bool r)∧Drawn0 w w':=by
 have H:(if a0 ≥ a1 then (some (decide (a0≤a2))) else (some false))=some r:=h;clear h
 by_cases c4:a0 ≥ a1
 ·rw [if_pos c4] at H;have c4b0:decide (a1≤a0)=true:=decide_eq_true c4;clear c4;obtain rfl:=os H
  go_enter Try.func63,Try.ntmps63
  go_wp2;go_ret;exact ⟨e1,dn⟩
 ·rw [if_neg c4] at H;have c4b0:decide (a1≤a0)=false:=decide_eq_false c4;clear c4;obtain rfl:=os H
  go_enter Try.func63,Try.ntmps63
  go_wp2;go_ret;exact ⟨e1,dn⟩
def spec_l01Pow2.l0:Nat→Int→Int→Int→Option (Int)
 | 0,_,_,_=>none
 | k + 1,x0,x3,x4=>if x4 < x0 then (spec_l01Pow2.l0 k x0 (wrap64 (2 * x3)) (wrap64 (x4 + 1))) else (some x3)
def spec_l01Pow2.f (k:Nat) (a0:Int):Option (Int):=spec_l01Pow2.l0 k a0 1 0
set_option maxHeartbeats 8000000 in
set_option maxRecDepth 100000 in
theorem spec_l01Pow2.calls (k:Nat) (a0:Int) (r:Int) (w:World) (h:spec_l01Pow2.f k a0=some r) :
  Calls Try.prog 119 #[.int .i64 a0] w fun e w'=>e = .returned (.int .i64 r)∧Drawn0 w w':=by
 have H:(spec_l01Pow2.l0 k a0 1 0)=some r:=h;clear h;have H':=Aside0.mk H;clear H
 go_enter Try.func119,Try.ntmps119
 go_wp2
 go_loopg [3,4] k (fun kq v3 v4 w'=>∃ (A1:Int) (A0:Int),v3 = .int .i64 A1∧v4 = .int .i64 A0∧Aside0 (spec_l01Pow2.l0 kq a0 A1 A0=some r)∧Aside0 (kq≤k)∧Drawn0 w w')
 case atStart=>exact ⟨(1),(0),(by first|rfl|(simp;done)|(simp [*];done)),(by first|rfl|(simp;done)|(simp [*];done)),H',⟨Nat.le_refl _⟩,by repeat (first|exact Drawn0.refl _|apply Drawn0.step)⟩
 case round =>
  clear H';(try clear c1);obtain ⟨A1,A0,rfl,rfl,HA,HK1,⟨m1,rfl⟩⟩:=hrel
  cases gk with
  | zero=>exact absurd HA.out (by simp [spec_l01Pow2.l0])
  | succ k1 =>
   have H:=HA.out;clear HA;simp only [spec_l01Pow2.l0] at H
   by_cases c2:A0 < a0
   ·rw [if_pos c2] at H;have c2b0:decide (A0 < a0)=true:=decide_eq_true c2;clear c2;have H':=Aside0.mk H;clear H;go_wp2;go_roundg k1
    case measure=>have:=HK1.out;omega
    case rel=>exact ⟨(wrap64 (2 * A1)),(wrap64 (A0 + 1)),(by first|rfl|(simp;done)|(simp [*];done)),(by first|rfl|(simp;done)|(simp [*];done)),H',⟨by have:=HK1.out;omega⟩,by repeat (first|exact Drawn0.refl _|apply Drawn0.step)⟩
   ·rw [if_neg c2] at H;have c2b0:decide (A0 < a0)=false:=decide_eq_false c2;clear c2;obtain rfl:=os H;go_wp2;go_ret;exact ⟨e1,dn⟩
end Go.Proofs.Ytlpfmhikahlcoaa.G
