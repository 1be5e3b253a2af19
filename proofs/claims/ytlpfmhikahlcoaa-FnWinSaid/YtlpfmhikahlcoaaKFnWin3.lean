-- texts of this session, merged by a program of it (wip/gen/pack.py)
import Derived.Test.YtlpfmhikahlcoaaKFnWin2
namespace Go.Proofs.Ytlpfmhikahlcoaa.G
open Go.RowKit Go.Proofs.YtlpfmhikahlcoaaW.PrintWords Go.Proofs.YtlpfmhikahlcoaaW.PrintLast Go.Proofs.YtlpfmhikahlcoaaW.PrintMore
attribute [local go_sem] max2_int min2_int max_two min_two max_three min_three max_four min_four
set_option linter.unusedVariables false
set_option linter.unusedSimpArgs false
open Go.Proofs.Ytlpfmhikahlcoaa.Mp
theorem ckKey (x:ByteArray) (h:x.size≤maxLen):(keyOf Try.prog 9 (.string x)).isSome=true:=by
 rw [WideMaps.keyOf_string_mk Try.underlying9 h];rfl
theorem ckCodec:Codec Try.prog 9 Value.string (fun s=>s.size≤maxLen):=⟨Go.Maps.string_keyed Try.underlying9,ckKey,fun x y h=>by injection h⟩
theorem ckZero (w:World):(zeroValue 3).run Try.prog w = .ok (.int .i64 0) w:=by kernel_rfl
def pkF:Nat→List S108→List (ByteArray × Int)→Int→Option (List (ByteArray × Int))
 | 0,_,_,_=>none
 | k + 1,l,L,i=>if i < (l.length:Int) then (if 0≤i then (impl_valsKey.f k (rd_T108 l i).f0).bind fun key =>
   if key.size≤maxLen∧(Lit.int .i64 (rd_T108 l i).f1).wf=true∧L.length < maxLen then (if mhas L key=true then pkF k l L (wrap64 (i + 1)) else pkF k l ((key,(rd_T108 l i).f1) :: L) (wrap64 (i + 1))) else none else none) else some L
set_option maxHeartbeats 8000000 in
set_option maxRecDepth 100000 in
theorem picksOf.calls (k:Nat) (A:Option Addr) (c:Nat) (l:List S108) (R:List (ByteArray × Int)) (w:World) (hr:Kd.C k108 w A l.length l) (hc:l.length≤c) (h:pkF k l [] 0=some R) :
  Calls Try.prog 96 #[.slice A l.length c] w fun e w'=>∃ mb,e = .returned (.map (some mb))∧IsMp Try.prog 9 3 Value.string (fun s=>s.size≤maxLen) w' mb R∧w.heap.size≤mb∧Below w.heap.size w w':=by
 have HR:=Aside0.mk hr
 have HC:=Aside0.mk hc
 have H':=Aside0.mk h
 clear hr hc h
 go_enter Try.func96,Try.ntmps96
 go_wp2_with (first|((with_reducible refine gate_dst (N:=9) rfl ?_);refine wpList_mkmap (κ:=ByteArray) (P:=Try.prog) (t:=90) ?_ ?_ 9 3 Value.string (fun s=>s.size≤maxLen) ?_;rfl;rfl;intro mb w1 hmb hm hb;have HM:=Aside0.mk hm;have HB:=Aside0.mk hb;have MG:=Aside0.mk (show w.heap.size≤mb by rw [hmb];exact Nat.le_refl _);clear hmb hm hb))
 go_loopg [12] k (fun kq v12 wr=>∃ (x:Int) (L:List (ByteArray × Int)),v12 = .int .i64 x∧Aside0 (pkF kq l L x=some R)∧Aside0 (kq≤k)∧Aside0 (IsMp Try.prog 9 3 Value.string (fun s=>s.size≤maxLen) wr mb L)∧Aside0 (Below w.heap.size w wr))
 case atStart=>exact ⟨0,[],rfl,H',⟨Nat.le_refl _⟩,HM,HB⟩
 case round =>
  clear H' HM HB
  obtain ⟨x,L,rfl,HA,HK1,HM,HB⟩:=hrel
  cases gk with
  | zero=>exact absurd HA.out (by simp [pkF])
  | succ k1 =>
   have H:=HA.out
   clear HA
   simp only [pkF] at H
   by_cases c3:x < (l.length:Int)
   ·rw [if_pos c3] at H
    by_cases c4:0≤x
    case neg=>rw [if_neg c4] at H;cases H
    rw [if_pos c4] at H
    obtain ⟨key,hv,H⟩:=Option.bind_eq_some_iff.1 H
    by_cases c5:key.size≤maxLen∧(Lit.int .i64 (rd_T108 l x).f1).wf=true∧L.length < maxLen
    case neg=>rw [if_neg c5] at H;cases H
    rw [if_pos c5] at H
    have HV:=Aside0.mk hv
    have H5:=Aside0.mk c5
    have d3:decide (x < (l.length:Int))=true:=decide_eq_true c3
    have d4:decide (0≤x)=true:=decide_eq_true c4
    clear hv c5
    obtain ⟨ad,A0,c0,e_,hx0,hx1,hec,he⟩:=at_T108 HR.out x c4 c3
    cases e_
    have HE:=Aside0.mk he
    have HEC:=Aside0.mk hec
    clear he hec
    replace hx0:=(HB.out.cell (World.block_lt_of_cell? w _ hx0)).trans hx0
    replace hx1:=(HB.out.cell (World.block_lt_of_cell? w _ hx1)).trans hx1
    replace c3:=eq_true c3
    replace c4:=eq_true c4
    by_cases c6:mhas L key=true
    ·rw [if_pos c6] at H
     have H':=Aside0.mk H
     clear H
     go_wp2_with (first|((with_reducible refine gate_callee (f:=98) rfl ?_);(try (refine gate_guard (by rfl) ?_;dsimp only));refine goesL_ (some 18) rfl rfl Try.func98 (by kernel_rfl) rfl #[.slice A0 (rd_T108 l x).f0.length c0] rfl (by (try simp only [List.map_toArray,List.map_cons,List.map_nil]);first|done|rfl) ?_;(with_reducible refine (impl_valsKey.calls k1 A0 c0 (rd_T108 l x).f0 key _ (Kd.C_below (Kd.C_below HE.out HB.out) (below_alloc (Below.refl _ _) _)) HEC.out HV.out).mono ?_);rintro e w2 ⟨rfl,hb⟩;refine ⟨_,rfl,?_⟩;have HM2:Aside0 (IsMp Try.prog 9 3 Value.string (fun s=>s.size≤maxLen) w2 mb L):=⟨(HM.out.alloc _).below hb (HM.out.alloc _).lt⟩;have HB2:Aside0 (Below w.heap.size w w2):=⟨below_step (below_alloc HB.out _) hb⟩;have B5:Aside0 (w2.heap[wr.heap.size]? = some (.cells #[.slice A0 (rd_T108 l x).f0.length c0,.int .i64 (rd_T108 l x).f1] 108 (0,0))):=⟨blk_below (blk_new wr _) hb⟩;have h50:w2.cell? ⟨wr.heap.size,0,none⟩=some (.slice A0 (rd_T108 l x).f0.length c0):=(blk_cell B5.out 0).trans rfl;have h51:w2.cell? ⟨wr.heap.size,1,none⟩=some (.int .i64 (rd_T108 l x).f1):=(blk_cell B5.out 1).trans rfl;clear hb hx0 hx1)|(at_lookup;(try (refine gate_guard (by rfl) ?_;dsimp only));refine wpList_mget_ok (κ:=ByteArray) (P:=Try.prog) (t:=90) (k:=9) (e:=3) (m:=L) rfl _ _ rfl ckCodec Try.underlying90 Try.underlying3 ckZero HM2.out rfl key rfl H5.out.1 ?_))
     go_roundg k1
     case measure=>have:=HK1.out;omega
     case rel=>exact ⟨wrap64 (x + 1),L,rfl,H',⟨by have:=HK1.out;omega⟩,HM2,HB2⟩
    ·rw [if_neg c6] at H
     replace c6:=Bool.eq_false_iff.mpr c6
     have H':=Aside0.mk H
     clear H
     go_wp2_with (first|((with_reducible refine gate_callee (f:=98) rfl ?_);(try (refine gate_guard (by rfl) ?_;dsimp only));refine goesL_ (some 18) rfl rfl Try.func98 (by kernel_rfl) rfl #[.slice A0 (rd_T108 l x).f0.length c0] rfl (by (try simp only [List.map_toArray,List.map_cons,List.map_nil]);first|done|rfl) ?_;(with_reducible refine (impl_valsKey.calls k1 A0 c0 (rd_T108 l x).f0 key _ (Kd.C_below (Kd.C_below HE.out HB.out) (below_alloc (Below.refl _ _) _)) HEC.out HV.out).mono ?_);rintro e w2 ⟨rfl,hb⟩;refine ⟨_,rfl,?_⟩;have HM2:Aside0 (IsMp Try.prog 9 3 Value.string (fun s=>s.size≤maxLen) w2 mb L):=⟨(HM.out.alloc _).below hb (HM.out.alloc _).lt⟩;have HB2:Aside0 (Below w.heap.size w w2):=⟨below_step (below_alloc HB.out _) hb⟩;have B5:Aside0 (w2.heap[wr.heap.size]? = some (.cells #[.slice A0 (rd_T108 l x).f0.length c0,.int .i64 (rd_T108 l x).f1] 108 (0,0))):=⟨blk_below (blk_new wr _) hb⟩;have h50:w2.cell? ⟨wr.heap.size,0,none⟩=some (.slice A0 (rd_T108 l x).f0.length c0):=(blk_cell B5.out 0).trans rfl;have h51:w2.cell? ⟨wr.heap.size,1,none⟩=some (.int .i64 (rd_T108 l x).f1):=(blk_cell B5.out 1).trans rfl;clear hb hx0 hx1)|(at_lookup;(try (refine gate_guard (by rfl) ?_;dsimp only));refine wpList_mget_ok (κ:=ByteArray) (P:=Try.prog) (t:=90) (k:=9) (e:=3) (m:=L) rfl _ _ rfl ckCodec Try.underlying90 Try.underlying3 ckZero HM2.out rfl key rfl H5.out.1 ?_)|(at_mapUpdate;refine wpList_mput (κ:=ByteArray) (P:=Try.prog) (t:=90) (k:=9) (e:=3) (m:=L) rfl _ _ _ rfl ckCodec Try.underlying90 Try.underlying3 HM2.out rfl key rfl H5.out.1 (rd_T108 l x).f1 rfl H5.out.2.1 H5.out.2.2 ?_;intro wz hm1 hg1;have HM3:=Aside0.mk hm1;have HB3:Aside0 (Below w.heap.size w wz):=⟨pw_below_grown HB2.out (some mb) HB2.out.size hg1 (fun k_ hk_=>by injection hk_ with hk_;subst hk_;exact MG.out)⟩;clear hm1 hg1))
     go_roundg k1
     case measure=>have:=HK1.out;omega
     case rel=>exact ⟨wrap64 (x + 1),(key,(rd_T108 l x).f1) :: L,rfl,H',⟨by have:=HK1.out;omega⟩,HM3,HB3⟩
   ·rw [if_neg c3] at H
    have d3:decide (x < (l.length:Int))=false:=decide_eq_false c3
    clear c3
    obtain rfl:=Option.some.inj H
    go_wp2
    go_ret
    exact ⟨mb,rfl,HM.out,MG.out,HB.out⟩
def ckF:Nat→List Bool→List (ByteArray × Int)→Int→Int→ByteArray→List Int→Option Bool
 | 0,_,_,_,_,_,_=>none
 | k + 1,owns,L,v,n,s,vals=>(impl_Table_known.f n s).bind fun kn=>if 0≤kn then some (kn == v) else
  if vals.length < owns.length then
   if rdOf false owns (vals.length:Int)=false then
    (impl_Table_half.f n s 0).bind fun h=>(impl_copyInts.f vals).bind fun c=>if c.length < 17592186044416 then (ckF k owns L v h.1 h.2 (c ++ [0])).bind fun b =>
     if b=true then (impl_Table_half.f n s 1).bind fun h1=>ckF k owns L v h1.1 h1.2 (c ++ [1]) else some false else none
   else (impl_valsKey.f k vals).bind fun key=>if key.size≤maxLen then
    if mhas L key=true∧(mget L key=0∨mget L key=1) then (impl_Table_half.f n s (mget L key)).bind fun h=>(impl_copyInts.f vals).bind fun c=>if c.length < 17592186044416 then ckF k owns L v h.1 h.2 (c ++ [mget L key]) else none
    else some false else none
  else none
set_option maxHeartbeats 8000000 in
set_option maxRecDepth 100000 in
theorem ck_walk.calls:∀ (k:Nat) (g:Nat) (Ao:Option Addr) (co:Nat) (owns:List Bool) (mb:Nat) (L:List (ByteArray × Int)) (v n:Int) (s:ByteArray) (Av:Option Addr) (nv cv:Nat) (vals:List Int) (r:Bool) (w:World),nv=vals.length →
  w.heap[g]? = some (.cells #[.slice Ao owns.length co,.map (some mb),.int .i64 v] 116 (0,0))→Kd.C Kd.bool w Ao owns.length owns→owns.length≤co→IsMp Try.prog 9 3 Value.string (fun s=>s.size≤maxLen) w mb L→Kd.C (Kd.int .i64) w Av vals.length vals→vals.length≤cv→ckF k owns L v n s vals=some r →
  Calls Try.prog 97 #[.pointer (some ⟨g,0,none⟩),.agg #[.int .i64 n,.string s],.slice Av nv cv] w fun e w'=>e = .returned (.bool r)∧Below w.heap.size w w':=by
 intro k
 induction k with
 | zero=>intro g Ao co owns mb L v n s Av nv cv vals r w _ _ _ _ _ _ _ h;cases h
 | succ k ih =>
 intro g Ao co owns mb L v n s Av nv cv vals r w hnv hg ho hoc hm hv hvc h
 have BG:=Aside0.mk hg
 have HO:=Aside0.mk ho
 have HOC:=Aside0.mk hoc
 have HM:=Aside0.mk hm
 have HV:=Aside0.mk hv
 have HVC:=Aside0.mk hvc
 subst hnv
 clear hg ho hoc hm hv hvc
 unfold ckF at h
 obtain ⟨kn,hk,h⟩:=Option.bind_eq_some_iff.1 h
 have HK:=Aside0.mk hk
 clear hk
 by_cases c1:0≤kn
 ·rw [if_pos c1] at h
  obtain rfl:=Option.some.inj h
  have dk:decide (0≤kn)=true:=decide_eq_true c1
  clear c1 h
  go_enter Try.func97,Try.ntmps97
  go_wp2_with (first|((with_reducible refine gate_dst (N:=4) rfl ?_);refine box_event ?hg (N:=4) ?hd (cs:=#[.int .i64 n,.string s]) (t:=29) ?hr ?_;(case hd=>rfl);(case hg=>rfl);(case hr=>first|(go_simp;done)|(go_simp;rfl));intro gt hg w1 hbox hb;have BTa:=Aside0.mk hbox;have HXa:=Aside0.mk hb;have hct0:w1.cell? ⟨gt,0,none⟩=some (.int .i64 n):=(blk_cell BTa.out 0).trans rfl;have hct1:w1.cell? ⟨gt,1,none⟩=some (.string s):=(blk_cell BTa.out 1).trans rfl;have hcg0:w1.cell? ⟨g,0,none⟩=some (.slice Ao owns.length co):=(blk_cell (blk_below BG.out HXa.out) 0).trans rfl;have hcg1:w1.cell? ⟨g,1,none⟩=some (.map (some mb)):=(blk_cell (blk_below BG.out HXa.out) 1).trans rfl;have hcg2:w1.cell? ⟨g,2,none⟩=some (.int .i64 v):=(blk_cell (blk_below BG.out HXa.out) 2).trans rfl;clear hg hbox hb)|((with_reducible refine gate_callee (f:=107) rfl ?_);(try (refine gate_guard (by rfl) ?_;dsimp only));refine goesL_ (some 11) rfl rfl Try.func107 (by kernel_rfl) rfl #[.agg #[.int .i64 n,.string s]] rfl (by (try simp only [List.map_toArray,List.map_cons,List.map_nil]);first|done|rfl) ?_;(with_reducible refine (impl_Table_known.calls n s kn _ HK.out).mono ?_);rintro e w2 ⟨rfl,hb⟩;refine ⟨_,rfl,?_⟩;have HXb:=Aside0.mk (below_step HXa.out hb);have BTb:=Aside0.mk (blk_below BTa.out hb);clear hct0 hct1 hcg0 hcg1 hcg2;clear hb HXa BTa;have hct0:w2.cell? ⟨gt,0,none⟩=some (.int .i64 n):=(blk_cell BTb.out 0).trans rfl;have hct1:w2.cell? ⟨gt,1,none⟩=some (.string s):=(blk_cell BTb.out 1).trans rfl;have hcg0:w2.cell? ⟨g,0,none⟩=some (.slice Ao owns.length co):=(blk_cell (blk_below BG.out HXb.out) 0).trans rfl;have hcg1:w2.cell? ⟨g,1,none⟩=some (.map (some mb)):=(blk_cell (blk_below BG.out HXb.out) 1).trans rfl;have hcg2:w2.cell? ⟨g,2,none⟩=some (.int .i64 v):=(blk_cell (blk_below BG.out HXb.out) 2).trans rfl))
  go_ret
  exact ⟨rfl,HXb.out⟩
 rw [if_neg c1] at h
 have dk:decide (0≤kn)=false:=decide_eq_false c1
 clear c1
 by_cases c2:vals.length < owns.length
 case neg=>rw [if_neg c2] at h;cases h
 rw [if_pos c2] at h
 obtain ⟨ad,e_,hxo⟩:=Kd.at_bool HO.out (vals.length:Int) (by omega) (by omega)
 cases e_
 rw [Int.toNat_natCast] at hxo
 have HXO:=Aside0.mk hxo
 clear hxo
 have C2:=Aside0.mk c2
 have q1:(vals.length < owns.length)=True:=eq_true (by omega)
 have q2:((vals.length:Int) < (owns.length:Int))=True:=eq_true (by omega)
 clear c2
 cases c3:rdOf false owns (vals.length:Int) with
 | false =>
  rw [c3] at HXO h
  rw [if_pos rfl] at h
  obtain ⟨⟨n0,s0⟩,h0,h⟩:=Option.bind_eq_some_iff.1 h
  obtain ⟨c,hc,h⟩:=Option.bind_eq_some_iff.1 h
  by_cases c4:c.length < 17592186044416
  case neg=>rw [if_neg c4] at h;cases h
  rw [if_pos c4] at h
  obtain ⟨b,hb0,h⟩:=Option.bind_eq_some_iff.1 h
  obtain ⟨y0,hy0⟩:∃ y:List Int,y=c ++ [0]:=⟨_,rfl⟩
  rw [← hy0] at hb0
  dsimp only at hb0 h
  have H0:=Aside0.mk h0
  have HCP:=Aside0.mk hc
  have HL:=Aside0.mk c4
  have HB0:=Aside0.mk hb0
  have Y0:=Aside0.mk hy0
  clear h0 hc c4 hb0 hy0
  cases b with
  | false =>
   rw [if_neg (by decide)] at h
   obtain rfl:=Option.some.inj h
   clear h
   go_enter Try.func97,Try.ntmps97
   go_wp2_with (first|((with_reducible refine gate_dst (N:=4) rfl ?_);refine box_event ?hg (N:=4) ?hd (cs:=#[.int .i64 n,.string s]) (t:=29) ?hr ?_;(case hd=>rfl);(case hg=>rfl);(case hr=>first|(go_simp;done)|(go_simp;rfl));intro gt hg w1 hbox hb;have BTa:=Aside0.mk hbox;have HXa:=Aside0.mk hb;have hct0:w1.cell? ⟨gt,0,none⟩=some (.int .i64 n):=(blk_cell BTa.out 0).trans rfl;have hct1:w1.cell? ⟨gt,1,none⟩=some (.string s):=(blk_cell BTa.out 1).trans rfl;have hcg0:w1.cell? ⟨g,0,none⟩=some (.slice (some ad) owns.length co):=(blk_cell (blk_below BG.out HXa.out) 0).trans rfl;have hcg1:w1.cell? ⟨g,1,none⟩=some (.map (some mb)):=(blk_cell (blk_below BG.out HXa.out) 1).trans rfl;have hcg2:w1.cell? ⟨g,2,none⟩=some (.int .i64 v):=(blk_cell (blk_below BG.out HXa.out) 2).trans rfl;have hxo:=(HXa.out.cell (World.block_lt_of_cell? w _ HXO.out)).trans HXO.out;clear hg hbox hb)|((with_reducible refine gate_callee (f:=107) rfl ?_);(try (refine gate_guard (by rfl) ?_;dsimp only));refine goesL_ (some 11) rfl rfl Try.func107 (by kernel_rfl) rfl #[.agg #[.int .i64 n,.string s]] rfl (by (try simp only [List.map_toArray,List.map_cons,List.map_nil]);first|done|rfl) ?_;(with_reducible refine (impl_Table_known.calls n s kn _ HK.out).mono ?_);rintro e w2 ⟨rfl,hb⟩;refine ⟨_,rfl,?_⟩;have HXb:=Aside0.mk (below_step HXa.out hb);have BTb:=Aside0.mk (blk_below BTa.out hb);clear hct0 hct1 hcg0 hcg1 hcg2 hxo;clear hb HXa BTa;have hct0:w2.cell? ⟨gt,0,none⟩=some (.int .i64 n):=(blk_cell BTb.out 0).trans rfl;have hct1:w2.cell? ⟨gt,1,none⟩=some (.string s):=(blk_cell BTb.out 1).trans rfl;have hcg0:w2.cell? ⟨g,0,none⟩=some (.slice (some ad) owns.length co):=(blk_cell (blk_below BG.out HXb.out) 0).trans rfl;have hcg1:w2.cell? ⟨g,1,none⟩=some (.map (some mb)):=(blk_cell (blk_below BG.out HXb.out) 1).trans rfl;have hcg2:w2.cell? ⟨g,2,none⟩=some (.int .i64 v):=(blk_cell (blk_below BG.out HXb.out) 2).trans rfl;have hxo:=(HXb.out.cell (World.block_lt_of_cell? w _ HXO.out)).trans HXO.out)|((with_reducible refine gate_callee (f:=108) rfl ?_);(try (refine gate_guard (by rfl) ?_;dsimp only));refine goesL_ (some 31) rfl rfl Try.func108 (by kernel_rfl) rfl #[.agg #[.int .i64 n,.string s],.int .i64 0] rfl (by (try simp only [List.map_toArray,List.map_cons,List.map_nil]);first|done|rfl) ?_;(with_reducible refine (impl_Table_half.calls n s 0 n0 s0 _ H0.out).mono ?_);rintro e w3 ⟨rfl,hb⟩;refine ⟨_,rfl,?_⟩;have HXc:=Aside0.mk (below_step HXb.out hb);have BTc:=Aside0.mk (blk_below BTb.out hb);clear hct0 hct1 hcg0 hcg1 hcg2 hxo;clear hb HXb BTb;have hct0:w3.cell? ⟨gt,0,none⟩=some (.int .i64 n):=(blk_cell BTc.out 0).trans rfl;have hct1:w3.cell? ⟨gt,1,none⟩=some (.string s):=(blk_cell BTc.out 1).trans rfl;have hcg0:w3.cell? ⟨g,0,none⟩=some (.slice (some ad) owns.length co):=(blk_cell (blk_below BG.out HXc.out) 0).trans rfl;have hcg1:w3.cell? ⟨g,1,none⟩=some (.map (some mb)):=(blk_cell (blk_below BG.out HXc.out) 1).trans rfl;have hcg2:w3.cell? ⟨g,2,none⟩=some (.int .i64 v):=(blk_cell (blk_below BG.out HXc.out) 2).trans rfl;have hxo:=(HXc.out.cell (World.block_lt_of_cell? w _ HXO.out)).trans HXO.out)|((with_reducible refine gate_callee (f:=115) rfl ?_);(try (refine gate_guard (by rfl) ?_;dsimp only));refine goesL_ (some 33) rfl rfl Try.func115 (by kernel_rfl) rfl #[.slice Av vals.length cv] rfl (by (try simp only [List.map_toArray,List.map_cons,List.map_nil]);first|done|rfl) ?_;(with_reducible refine (impl_copyInts.calls Av cv vals c _ (Kd.C_below HV.out HXc.out) HVC.out HCP.out).mono ?_);rintro e w4 ⟨v_,rfl,ho,hb⟩;refine ⟨_,rfl,?_⟩;have RO:=Aside0.mk (Kd.R_lower ho HXc.out.size);clear ho;have HXd:=Aside0.mk (below_step HXc.out hb);have BTd:=Aside0.mk (blk_below BTc.out hb);clear hct0 hct1 hcg0 hcg1 hcg2 hxo;clear hb HXc BTc;have hct0:w4.cell? ⟨gt,0,none⟩=some (.int .i64 n):=(blk_cell BTd.out 0).trans rfl;have hct1:w4.cell? ⟨gt,1,none⟩=some (.string s):=(blk_cell BTd.out 1).trans rfl;have hcg0:w4.cell? ⟨g,0,none⟩=some (.slice (some ad) owns.length co):=(blk_cell (blk_below BG.out HXd.out) 0).trans rfl;have hcg1:w4.cell? ⟨g,1,none⟩=some (.map (some mb)):=(blk_cell (blk_below BG.out HXd.out) 1).trans rfl;have hcg2:w4.cell? ⟨g,2,none⟩=some (.int .i64 v):=(blk_cell (blk_below BG.out HXd.out) 2).trans rfl;have hxo:=(HXd.out.cell (World.block_lt_of_cell? w _ HXO.out)).trans HXO.out)|((with_reducible refine gate_builtin (b := .append) (xs:=#[.tmp 33,.tmp 34]) rfl ?_);(try (refine gate_guard (by rfl) ?_;dsimp only));at_builtin;refine Kd.R_append (Kd.int .i64) (w0:=w) w.heap.size rfl (.tmp 33) (.tmp 34) 33 3 (.int .i64 0) 8 rfl Try.underlying33 info3 rfl (by decide) (by decide) _ c 0 [.int .i64 0] (fun _=>True) (fun _=>False) rfl rfl rfl (fun _ hk=>hk.elim) (fun _ _=>trivial) RO.out HXd.out (below_size HXd.out) (by have:=HL.out;omega) ?_;intro v_ w5 ho hbx hg hat;rw [show c ++ [0]=y0 from Y0.out.symm] at ho;have BTe:=Aside0.mk (blk_grown (g:=gt) (o := .cells #[.int .i64 n,.string s] 29 (0,0)) BTd.out hg (Kd.R_ne RO.out BTd.out (by decide)));have HXe:=Aside0.mk hbx;have HRe:=Aside0.mk ho;clear ho hbx hg hat HXd BTd;obtain ⟨Ae,ce,ee⟩:=Kd.R_slice HRe.out;subst ee;clear hct0 hct1 hcg0 hcg1 hcg2 hxo;have hct0:w5.cell? ⟨gt,0,none⟩=some (.int .i64 n):=(blk_cell BTe.out 0).trans rfl;have hct1:w5.cell? ⟨gt,1,none⟩=some (.string s):=(blk_cell BTe.out 1).trans rfl;have hcg0:w5.cell? ⟨g,0,none⟩=some (.slice (some ad) owns.length co):=(blk_cell (blk_below BG.out HXe.out) 0).trans rfl;have hcg1:w5.cell? ⟨g,1,none⟩=some (.map (some mb)):=(blk_cell (blk_below BG.out HXe.out) 1).trans rfl;have hcg2:w5.cell? ⟨g,2,none⟩=some (.int .i64 v):=(blk_cell (blk_below BG.out HXe.out) 2).trans rfl;have hxo:=(HXe.out.cell (World.block_lt_of_cell? w _ HXO.out)).trans HXO.out)|((with_reducible refine gate_callee (f:=97) rfl ?_);(try (refine gate_guard (by rfl) ?_;dsimp only));refine goesL_ (some 36) rfl rfl Try.func97 (by kernel_rfl) rfl #[.pointer (some ⟨g,0,none⟩),.agg #[.int .i64 n0,.string s0],.slice Ae y0.length ce] rfl (by (try simp only [List.map_toArray,List.map_cons,List.map_nil]);first|done|rfl) ?_;(with_reducible refine (ih g (some ad) co owns mb L v n0 s0 Ae y0.length ce y0 _ _ rfl (blk_below BG.out HXe.out) (Kd.C_below HO.out HXe.out) HOC.out (HM.out.below HXe.out HM.out.lt) (Kd.R_reads' HRe.out).2.2 (Kd.R_reads' HRe.out).2.1 HB0.out).mono ?_);rintro e w6 ⟨rfl,hb⟩;refine ⟨_,rfl,?_⟩;have HXf:=Aside0.mk (below_step HXe.out hb);have BTf:=Aside0.mk (blk_below BTe.out hb);clear hct0 hct1 hcg0 hcg1 hcg2 hxo;clear hb HXe BTe;have hct0:w6.cell? ⟨gt,0,none⟩=some (.int .i64 n):=(blk_cell BTf.out 0).trans rfl;have hct1:w6.cell? ⟨gt,1,none⟩=some (.string s):=(blk_cell BTf.out 1).trans rfl;have hcg0:w6.cell? ⟨g,0,none⟩=some (.slice (some ad) owns.length co):=(blk_cell (blk_below BG.out HXf.out) 0).trans rfl;have hcg1:w6.cell? ⟨g,1,none⟩=some (.map (some mb)):=(blk_cell (blk_below BG.out HXf.out) 1).trans rfl;have hcg2:w6.cell? ⟨g,2,none⟩=some (.int .i64 v):=(blk_cell (blk_below BG.out HXf.out) 2).trans rfl;have hxo:=(HXf.out.cell (World.block_lt_of_cell? w _ HXO.out)).trans HXO.out))
   go_ret
   exact ⟨rfl,HXf.out⟩
  | true =>
   rw [if_pos rfl] at h
   obtain ⟨⟨n1,s1⟩,h1,h⟩:=Option.bind_eq_some_iff.1 h
   obtain ⟨y1,hy1⟩:∃ y:List Int,y=c ++ [1]:=⟨_,rfl⟩
   rw [← hy1] at h
   dsimp only at h
   have H1:=Aside0.mk h1
   have HB1:=Aside0.mk h
   have Y1:=Aside0.mk hy1
   clear h1 h hy1
   go_enter Try.func97,Try.ntmps97
   go_wp2_with (first|((with_reducible refine gate_dst (N:=4) rfl ?_);refine box_event ?hg (N:=4) ?hd (cs:=#[.int .i64 n,.string s]) (t:=29) ?hr ?_;(case hd=>rfl);(case hg=>rfl);(case hr=>first|(go_simp;done)|(go_simp;rfl));intro gt hg w1 hbox hb;have BTa:=Aside0.mk hbox;have HXa:=Aside0.mk hb;have hct0:w1.cell? ⟨gt,0,none⟩=some (.int .i64 n):=(blk_cell BTa.out 0).trans rfl;have hct1:w1.cell? ⟨gt,1,none⟩=some (.string s):=(blk_cell BTa.out 1).trans rfl;have hcg0:w1.cell? ⟨g,0,none⟩=some (.slice (some ad) owns.length co):=(blk_cell (blk_below BG.out HXa.out) 0).trans rfl;have hcg1:w1.cell? ⟨g,1,none⟩=some (.map (some mb)):=(blk_cell (blk_below BG.out HXa.out) 1).trans rfl;have hcg2:w1.cell? ⟨g,2,none⟩=some (.int .i64 v):=(blk_cell (blk_below BG.out HXa.out) 2).trans rfl;have hxo:=(HXa.out.cell (World.block_lt_of_cell? w _ HXO.out)).trans HXO.out;clear hg hbox hb)|((with_reducible refine gate_callee (f:=107) rfl ?_);(try (refine gate_guard (by rfl) ?_;dsimp only));refine goesL_ (some 11) rfl rfl Try.func107 (by kernel_rfl) rfl #[.agg #[.int .i64 n,.string s]] rfl (by (try simp only [List.map_toArray,List.map_cons,List.map_nil]);first|done|rfl) ?_;(with_reducible refine (impl_Table_known.calls n s kn _ HK.out).mono ?_);rintro e w2 ⟨rfl,hb⟩;refine ⟨_,rfl,?_⟩;have HXb:=Aside0.mk (below_step HXa.out hb);have BTb:=Aside0.mk (blk_below BTa.out hb);clear hct0 hct1 hcg0 hcg1 hcg2 hxo;clear hb HXa BTa;have hct0:w2.cell? ⟨gt,0,none⟩=some (.int .i64 n):=(blk_cell BTb.out 0).trans rfl;have hct1:w2.cell? ⟨gt,1,none⟩=some (.string s):=(blk_cell BTb.out 1).trans rfl;have hcg0:w2.cell? ⟨g,0,none⟩=some (.slice (some ad) owns.length co):=(blk_cell (blk_below BG.out HXb.out) 0).trans rfl;have hcg1:w2.cell? ⟨g,1,none⟩=some (.map (some mb)):=(blk_cell (blk_below BG.out HXb.out) 1).trans rfl;have hcg2:w2.cell? ⟨g,2,none⟩=some (.int .i64 v):=(blk_cell (blk_below BG.out HXb.out) 2).trans rfl;have hxo:=(HXb.out.cell (World.block_lt_of_cell? w _ HXO.out)).trans HXO.out)|((with_reducible refine gate_callee (f:=108) rfl ?_);(try (refine gate_guard (by rfl) ?_;dsimp only));refine goesL_ (some 31) rfl rfl Try.func108 (by kernel_rfl) rfl #[.agg #[.int .i64 n,.string s],.int .i64 0] rfl (by (try simp only [List.map_toArray,List.map_cons,List.map_nil]);first|done|rfl) ?_;(with_reducible refine (impl_Table_half.calls n s 0 n0 s0 _ H0.out).mono ?_);rintro e w3 ⟨rfl,hb⟩;refine ⟨_,rfl,?_⟩;have HXc:=Aside0.mk (below_step HXb.out hb);have BTc:=Aside0.mk (blk_below BTb.out hb);clear hct0 hct1 hcg0 hcg1 hcg2 hxo;clear hb HXb BTb;have hct0:w3.cell? ⟨gt,0,none⟩=some (.int .i64 n):=(blk_cell BTc.out 0).trans rfl;have hct1:w3.cell? ⟨gt,1,none⟩=some (.string s):=(blk_cell BTc.out 1).trans rfl;have hcg0:w3.cell? ⟨g,0,none⟩=some (.slice (some ad) owns.length co):=(blk_cell (blk_below BG.out HXc.out) 0).trans rfl;have hcg1:w3.cell? ⟨g,1,none⟩=some (.map (some mb)):=(blk_cell (blk_below BG.out HXc.out) 1).trans rfl;have hcg2:w3.cell? ⟨g,2,none⟩=some (.int .i64 v):=(blk_cell (blk_below BG.out HXc.out) 2).trans rfl;have hxo:=(HXc.out.cell (World.block_lt_of_cell? w _ HXO.out)).trans HXO.out)|((with_reducible refine gate_callee (f:=115) rfl ?_);(try (refine gate_guard (by rfl) ?_;dsimp only));refine goesL_ (some 33) rfl rfl Try.func115 (by kernel_rfl) rfl #[.slice Av vals.length cv] rfl (by (try simp only [List.map_toArray,List.map_cons,List.map_nil]);first|done|rfl) ?_;(with_reducible refine (impl_copyInts.calls Av cv vals c _ (Kd.C_below HV.out HXc.out) HVC.out HCP.out).mono ?_);rintro e w4 ⟨v_,rfl,ho,hb⟩;refine ⟨_,rfl,?_⟩;have RO:=Aside0.mk (Kd.R_lower ho HXc.out.size);clear ho;have HXd:=Aside0.mk (below_step HXc.out hb);have BTd:=Aside0.mk (blk_below BTc.out hb);clear hct0 hct1 hcg0 hcg1 hcg2 hxo;clear hb HXc BTc;have hct0:w4.cell? ⟨gt,0,none⟩=some (.int .i64 n):=(blk_cell BTd.out 0).trans rfl;have hct1:w4.cell? ⟨gt,1,none⟩=some (.string s):=(blk_cell BTd.out 1).trans rfl;have hcg0:w4.cell? ⟨g,0,none⟩=some (.slice (some ad) owns.length co):=(blk_cell (blk_below BG.out HXd.out) 0).trans rfl;have hcg1:w4.cell? ⟨g,1,none⟩=some (.map (some mb)):=(blk_cell (blk_below BG.out HXd.out) 1).trans rfl;have hcg2:w4.cell? ⟨g,2,none⟩=some (.int .i64 v):=(blk_cell (blk_below BG.out HXd.out) 2).trans rfl;have hxo:=(HXd.out.cell (World.block_lt_of_cell? w _ HXO.out)).trans HXO.out)|((with_reducible refine gate_builtin (b := .append) (xs:=#[.tmp 33,.tmp 34]) rfl ?_);(try (refine gate_guard (by rfl) ?_;dsimp only));at_builtin;refine Kd.R_append (Kd.int .i64) (w0:=w) w.heap.size rfl (.tmp 33) (.tmp 34) 33 3 (.int .i64 0) 8 rfl Try.underlying33 info3 rfl (by decide) (by decide) _ c 0 [.int .i64 0] (fun _=>True) (fun _=>False) rfl rfl rfl (fun _ hk=>hk.elim) (fun _ _=>trivial) RO.out HXd.out (below_size HXd.out) (by have:=HL.out;omega) ?_;intro v_ w5 ho hbx hg hat;rw [show c ++ [0]=y0 from Y0.out.symm] at ho;have BTe:=Aside0.mk (blk_grown (g:=gt) (o := .cells #[.int .i64 n,.string s] 29 (0,0)) BTd.out hg (Kd.R_ne RO.out BTd.out (by decide)));have HXe:=Aside0.mk hbx;have HRe:=Aside0.mk ho;clear ho hbx hg hat HXd BTd;obtain ⟨Ae,ce,ee⟩:=Kd.R_slice HRe.out;subst ee;clear hct0 hct1 hcg0 hcg1 hcg2 hxo;have hct0:w5.cell? ⟨gt,0,none⟩=some (.int .i64 n):=(blk_cell BTe.out 0).trans rfl;have hct1:w5.cell? ⟨gt,1,none⟩=some (.string s):=(blk_cell BTe.out 1).trans rfl;have hcg0:w5.cell? ⟨g,0,none⟩=some (.slice (some ad) owns.length co):=(blk_cell (blk_below BG.out HXe.out) 0).trans rfl;have hcg1:w5.cell? ⟨g,1,none⟩=some (.map (some mb)):=(blk_cell (blk_below BG.out HXe.out) 1).trans rfl;have hcg2:w5.cell? ⟨g,2,none⟩=some (.int .i64 v):=(blk_cell (blk_below BG.out HXe.out) 2).trans rfl;have hxo:=(HXe.out.cell (World.block_lt_of_cell? w _ HXO.out)).trans HXO.out)|((with_reducible refine gate_callee (f:=97) rfl ?_);(try (refine gate_guard (by rfl) ?_;dsimp only));refine goesL_ (some 36) rfl rfl Try.func97 (by kernel_rfl) rfl #[.pointer (some ⟨g,0,none⟩),.agg #[.int .i64 n0,.string s0],.slice Ae y0.length ce] rfl (by (try simp only [List.map_toArray,List.map_cons,List.map_nil]);first|done|rfl) ?_;(with_reducible refine (ih g (some ad) co owns mb L v n0 s0 Ae y0.length ce y0 _ _ rfl (blk_below BG.out HXe.out) (Kd.C_below HO.out HXe.out) HOC.out (HM.out.below HXe.out HM.out.lt) (Kd.R_reads' HRe.out).2.2 (Kd.R_reads' HRe.out).2.1 HB0.out).mono ?_);rintro e w6 ⟨rfl,hb⟩;refine ⟨_,rfl,?_⟩;have HXf:=Aside0.mk (below_step HXe.out hb);have BTf:=Aside0.mk (blk_below BTe.out hb);clear hct0 hct1 hcg0 hcg1 hcg2 hxo;clear hb HXe BTe;have hct0:w6.cell? ⟨gt,0,none⟩=some (.int .i64 n):=(blk_cell BTf.out 0).trans rfl;have hct1:w6.cell? ⟨gt,1,none⟩=some (.string s):=(blk_cell BTf.out 1).trans rfl;have hcg0:w6.cell? ⟨g,0,none⟩=some (.slice (some ad) owns.length co):=(blk_cell (blk_below BG.out HXf.out) 0).trans rfl;have hcg1:w6.cell? ⟨g,1,none⟩=some (.map (some mb)):=(blk_cell (blk_below BG.out HXf.out) 1).trans rfl;have hcg2:w6.cell? ⟨g,2,none⟩=some (.int .i64 v):=(blk_cell (blk_below BG.out HXf.out) 2).trans rfl;have hxo:=(HXf.out.cell (World.block_lt_of_cell? w _ HXO.out)).trans HXO.out)|((with_reducible refine gate_callee (f:=108) rfl ?_);(try (refine gate_guard (by rfl) ?_;dsimp only));refine goesL_ (some 40) rfl rfl Try.func108 (by kernel_rfl) rfl #[.agg #[.int .i64 n,.string s],.int .i64 1] rfl (by (try simp only [List.map_toArray,List.map_cons,List.map_nil]);first|done|rfl) ?_;(with_reducible refine (impl_Table_half.calls n s 1 n1 s1 _ H1.out).mono ?_);rintro e w7 ⟨rfl,hb⟩;refine ⟨_,rfl,?_⟩;have HXh:=Aside0.mk (below_step HXf.out hb);have BTh:=Aside0.mk (blk_below BTf.out hb);clear hct0 hct1 hcg0 hcg1 hcg2 hxo;clear hb HXf BTf;have hct0:w7.cell? ⟨gt,0,none⟩=some (.int .i64 n):=(blk_cell BTh.out 0).trans rfl;have hct1:w7.cell? ⟨gt,1,none⟩=some (.string s):=(blk_cell BTh.out 1).trans rfl;have hcg0:w7.cell? ⟨g,0,none⟩=some (.slice (some ad) owns.length co):=(blk_cell (blk_below BG.out HXh.out) 0).trans rfl;have hcg1:w7.cell? ⟨g,1,none⟩=some (.map (some mb)):=(blk_cell (blk_below BG.out HXh.out) 1).trans rfl;have hcg2:w7.cell? ⟨g,2,none⟩=some (.int .i64 v):=(blk_cell (blk_below BG.out HXh.out) 2).trans rfl;have hxo:=(HXh.out.cell (World.block_lt_of_cell? w _ HXO.out)).trans HXO.out)|((with_reducible refine gate_callee (f:=115) rfl ?_);(try (refine gate_guard (by rfl) ?_;dsimp only));refine goesL_ (some 42) rfl rfl Try.func115 (by kernel_rfl) rfl #[.slice Av vals.length cv] rfl (by (try simp only [List.map_toArray,List.map_cons,List.map_nil]);first|done|rfl) ?_;(with_reducible refine (impl_copyInts.calls Av cv vals c _ (Kd.C_below HV.out HXh.out) HVC.out HCP.out).mono ?_);rintro e w8 ⟨v_,rfl,ho,hb⟩;refine ⟨_,rfl,?_⟩;have RO2:=Aside0.mk (Kd.R_lower ho HXh.out.size);clear ho;have HXi:=Aside0.mk (below_step HXh.out hb);have BTi:=Aside0.mk (blk_below BTh.out hb);clear hct0 hct1 hcg0 hcg1 hcg2 hxo;clear hb HXh BTh;have hct0:w8.cell? ⟨gt,0,none⟩=some (.int .i64 n):=(blk_cell BTi.out 0).trans rfl;have hct1:w8.cell? ⟨gt,1,none⟩=some (.string s):=(blk_cell BTi.out 1).trans rfl;have hcg0:w8.cell? ⟨g,0,none⟩=some (.slice (some ad) owns.length co):=(blk_cell (blk_below BG.out HXi.out) 0).trans rfl;have hcg1:w8.cell? ⟨g,1,none⟩=some (.map (some mb)):=(blk_cell (blk_below BG.out HXi.out) 1).trans rfl;have hcg2:w8.cell? ⟨g,2,none⟩=some (.int .i64 v):=(blk_cell (blk_below BG.out HXi.out) 2).trans rfl;have hxo:=(HXi.out.cell (World.block_lt_of_cell? w _ HXO.out)).trans HXO.out)|((with_reducible refine gate_builtin (b := .append) (xs:=#[.tmp 42,.tmp 43]) rfl ?_);(try (refine gate_guard (by rfl) ?_;dsimp only));at_builtin;refine Kd.R_append (Kd.int .i64) (w0:=w) w.heap.size rfl (.tmp 42) (.tmp 43) 33 3 (.int .i64 0) 8 rfl Try.underlying33 info3 rfl (by decide) (by decide) _ c 1 [.int .i64 1] (fun _=>True) (fun _=>False) rfl rfl rfl (fun _ hk=>hk.elim) (fun _ _=>trivial) RO2.out HXi.out (below_size HXi.out) (by have:=HL.out;omega) ?_;intro v_ w9 ho hbx hg hat;rw [show c ++ [1]=y1 from Y1.out.symm] at ho;have BTj:=Aside0.mk (blk_grown (g:=gt) (o := .cells #[.int .i64 n,.string s] 29 (0,0)) BTi.out hg (Kd.R_ne RO2.out BTi.out (by decide)));have HXj:=Aside0.mk hbx;have HRj:=Aside0.mk ho;clear ho hbx hg hat HXi BTi;obtain ⟨Aj,cj,ej⟩:=Kd.R_slice HRj.out;subst ej;clear hct0 hct1 hcg0 hcg1 hcg2 hxo;have hct0:w9.cell? ⟨gt,0,none⟩=some (.int .i64 n):=(blk_cell BTj.out 0).trans rfl;have hct1:w9.cell? ⟨gt,1,none⟩=some (.string s):=(blk_cell BTj.out 1).trans rfl;have hcg0:w9.cell? ⟨g,0,none⟩=some (.slice (some ad) owns.length co):=(blk_cell (blk_below BG.out HXj.out) 0).trans rfl;have hcg1:w9.cell? ⟨g,1,none⟩=some (.map (some mb)):=(blk_cell (blk_below BG.out HXj.out) 1).trans rfl;have hcg2:w9.cell? ⟨g,2,none⟩=some (.int .i64 v):=(blk_cell (blk_below BG.out HXj.out) 2).trans rfl;have hxo:=(HXj.out.cell (World.block_lt_of_cell? w _ HXO.out)).trans HXO.out)|((with_reducible refine gate_callee (f:=97) rfl ?_);(try (refine gate_guard (by rfl) ?_;dsimp only));refine goesL_ (some 45) rfl rfl Try.func97 (by kernel_rfl) rfl #[.pointer (some ⟨g,0,none⟩),.agg #[.int .i64 n1,.string s1],.slice Aj y1.length cj] rfl (by (try simp only [List.map_toArray,List.map_cons,List.map_nil]);first|done|rfl) ?_;(with_reducible refine (ih g (some ad) co owns mb L v n1 s1 Aj y1.length cj y1 r _ rfl (blk_below BG.out HXj.out) (Kd.C_below HO.out HXj.out) HOC.out (HM.out.below HXj.out HM.out.lt) (Kd.R_reads' HRj.out).2.2 (Kd.R_reads' HRj.out).2.1 HB1.out).mono ?_);rintro e w10 ⟨rfl,hb⟩;refine ⟨_,rfl,?_⟩;have HXk:=Aside0.mk (below_step HXj.out hb);have BTk:=Aside0.mk (blk_below BTj.out hb);clear hct0 hct1 hcg0 hcg1 hcg2 hxo;clear hb HXj BTj;have hct0:w10.cell? ⟨gt,0,none⟩=some (.int .i64 n):=(blk_cell BTk.out 0).trans rfl;have hct1:w10.cell? ⟨gt,1,none⟩=some (.string s):=(blk_cell BTk.out 1).trans rfl;have hcg0:w10.cell? ⟨g,0,none⟩=some (.slice (some ad) owns.length co):=(blk_cell (blk_below BG.out HXk.out) 0).trans rfl;have hcg1:w10.cell? ⟨g,1,none⟩=some (.map (some mb)):=(blk_cell (blk_below BG.out HXk.out) 1).trans rfl;have hcg2:w10.cell? ⟨g,2,none⟩=some (.int .i64 v):=(blk_cell (blk_below BG.out HXk.out) 2).trans rfl;have hxo:=(HXk.out.cell (World.block_lt_of_cell? w _ HXO.out)).trans HXO.out))
   go_ret
   exact ⟨rfl,HXk.out⟩
 | true =>
  rw [c3] at HXO h
  rw [if_neg (by decide)] at h
  obtain ⟨key,hkey,h⟩:=Option.bind_eq_some_iff.1 h
  by_cases c4:key.size≤maxLen
  case neg=>rw [if_neg c4] at h;cases h
  rw [if_pos c4] at h
  have HY:=Aside0.mk hkey
  have HYS:=Aside0.mk c4
  clear hkey c4
  go_enter Try.func97,Try.ntmps97
  go_upto_region 6 with (first|((with_reducible refine gate_dst (N:=4) rfl ?_);refine box_event ?hg (N:=4) ?hd (cs:=#[.int .i64 n,.string s]) (t:=29) ?hr ?_;(case hd=>rfl);(case hg=>rfl);(case hr=>first|(go_simp;done)|(go_simp;rfl));intro gt hg w1 hbox hb;have BTa:=Aside0.mk hbox;have HXa:=Aside0.mk hb;have hct0:w1.cell? ⟨gt,0,none⟩=some (.int .i64 n):=(blk_cell BTa.out 0).trans rfl;have hct1:w1.cell? ⟨gt,1,none⟩=some (.string s):=(blk_cell BTa.out 1).trans rfl;have hcg0:w1.cell? ⟨g,0,none⟩=some (.slice (some ad) owns.length co):=(blk_cell (blk_below BG.out HXa.out) 0).trans rfl;have hcg1:w1.cell? ⟨g,1,none⟩=some (.map (some mb)):=(blk_cell (blk_below BG.out HXa.out) 1).trans rfl;have hcg2:w1.cell? ⟨g,2,none⟩=some (.int .i64 v):=(blk_cell (blk_below BG.out HXa.out) 2).trans rfl;have hxo:=(HXa.out.cell (World.block_lt_of_cell? w _ HXO.out)).trans HXO.out;clear hg hbox hb)|((with_reducible refine gate_callee (f:=107) rfl ?_);(try (refine gate_guard (by rfl) ?_;dsimp only));refine goesL_ (some 11) rfl rfl Try.func107 (by kernel_rfl) rfl #[.agg #[.int .i64 n,.string s]] rfl (by (try simp only [List.map_toArray,List.map_cons,List.map_nil]);first|done|rfl) ?_;(with_reducible refine (impl_Table_known.calls n s kn _ HK.out).mono ?_);rintro e w2 ⟨rfl,hb⟩;refine ⟨_,rfl,?_⟩;have HXb:=Aside0.mk (below_step HXa.out hb);have BTb:=Aside0.mk (blk_below BTa.out hb);clear hct0 hct1 hcg0 hcg1 hcg2 hxo;clear hb HXa BTa;have hct0:w2.cell? ⟨gt,0,none⟩=some (.int .i64 n):=(blk_cell BTb.out 0).trans rfl;have hct1:w2.cell? ⟨gt,1,none⟩=some (.string s):=(blk_cell BTb.out 1).trans rfl;have hcg0:w2.cell? ⟨g,0,none⟩=some (.slice (some ad) owns.length co):=(blk_cell (blk_below BG.out HXb.out) 0).trans rfl;have hcg1:w2.cell? ⟨g,1,none⟩=some (.map (some mb)):=(blk_cell (blk_below BG.out HXb.out) 1).trans rfl;have hcg2:w2.cell? ⟨g,2,none⟩=some (.int .i64 v):=(blk_cell (blk_below BG.out HXb.out) 2).trans rfl;have hxo:=(HXb.out.cell (World.block_lt_of_cell? w _ HXO.out)).trans HXO.out))
  have HXc:=Aside0.mk (below_drew1 HXb.out)
  have BTc:=Aside0.mk (blk_drew BTb.out)
  clear HXb BTb
  clear hct0 hct1 hcg0 hcg1 hcg2 hxo
  refine start_ (n:=12) (S:=fun w'=>w'.cell? ⟨g,1,none⟩=some (.map (some mb))) (ds:=[]) #[false,false,false,false,false,false,false,false,false,false,false,false] (by kernel_rfl) rfl rfl ((blk_cell (blk_below BG.out HXc.out) 1).trans rfl) (fun hHeld=>?_)
  generalize w2.drew=w3 at HXc BTc hHeld ⊢
  have HXd:=HXc
  have BTd:=BTc
  clear HXc BTc
  refine pure_ (i:=0) (N:=some 48) (v:=?_) (a':=?_) #[true,false,false,false,false,false,false,false,false,false,false,false] rfl rfl (by kernel_rfl) (fun _ _ _ h=>h) (Or.inl ⟨by rfl,?_⟩) ?_ ?_
  rotate_left
  ·intro w'
   go_simp
   with_reducible rfl
  rotate_left
  ·simp only [Act.put,List.setIfInBounds_toArray,List.set_cons_zero,List.set_cons_succ,i64_w,i32_w]
   rfl
  refine pure_ (i:=1) (N:=some 49) (v:=?_) (a':=?_) #[true,true,false,false,false,false,false,false,false,false,false,false] rfl rfl (by kernel_rfl) (fun _ _ _ h=>h) (Or.inl ⟨by rfl,?_⟩) ?_ ?_
  rotate_left
  ·intro w'
   go_simp
   with_reducible rfl
  rotate_left
  ·simp only [Act.put,List.setIfInBounds_toArray,List.set_cons_zero,List.set_cons_succ,i64_w,i32_w]
   rfl
  refine pure_ (i:=2) (N:=some 50) (v:=?_) (a':=?_) #[true,true,true,false,false,false,false,false,false,false,false,false] rfl rfl (by kernel_rfl) (fun _ _ _ h=>h) (Or.inl ⟨by rfl,?_⟩) ?_ ?_
  rotate_left
  ·intro w'
   go_simp
   with_reducible rfl
  rotate_left
  ·simp only [Act.put,List.setIfInBounds_toArray,List.set_cons_zero,List.set_cons_succ,i64_w,i32_w]
   rfl
  refine pure_ (i:=4) (N:=some 52) (v:=?_) (a':=?_) #[true,true,true,false,true,false,false,false,false,false,false,false] rfl rfl (by kernel_rfl) (fun _ _ _ h=>h) (Or.inl ⟨by rfl,?_⟩) ?_ ?_
  rotate_left
  ·intro w'
   go_simp
   with_reducible rfl
  rotate_left
  ·simp only [Act.put,List.setIfInBounds_toArray,List.set_cons_zero,List.set_cons_succ,i64_w,i32_w]
   rfl
  refine take_ (i:=3) (N:=some 51) (v:=?_) (a':=?_) #[true,true,true,true,true,false,false,false,false,false,false,false] rfl rfl (by kernel_rfl) (fun _ _ _ h=>h) (Or.inl ⟨by rfl,?_⟩) hHeld ?_ ?_
  rotate_left
  ·intro w' s0
   go_simp
   with_reducible rfl
  rotate_left
  ·simp only [Act.put,List.setIfInBounds_toArray,List.set_cons_zero,List.set_cons_succ,i64_w,i32_w]
   rfl
  refine one_ (i:=5) (N:=some 53) #[true,true,true,true,true,true,false,false,false,false,false,false] rfl rfl (by kernel_rfl) (by decide) (fun K hK=>?_)
  refine goes_ Try.func98 (by kernel_rfl) rfl #[.slice Av vals.length cv] (by rfl) rfl rfl (by simp only [List.map_toArray,List.map_cons,List.map_nil];rfl) ?_
  with_reducible refine (impl_valsKey.calls k Av cv vals key _ (Kd.C_below HV.out HXd.out) HVC.out HY.out).mono ?_
  rintro e w4 ⟨rfl,hb⟩
  refine ⟨_,rfl,?_⟩
  have HXe:=Aside0.mk (below_step HXd.out hb)
  have BTe:=Aside0.mk (blk_below BTd.out hb)
  clear hb HXd BTd
  refine hK.out _ _ ((blk_cell (blk_below BG.out HXe.out) 1).trans rfl) (fun hHeld=>?_)
  clear hK K
  refine norm_ (a':=?_) ?_ ?_
  rotate_left
  ·show Act.put _ (some 53) _=_
   simp only [Act.put,List.setIfInBounds_toArray,List.set_cons_zero,List.set_cons_succ,i64_w,i32_w]
   rfl
  refine one_ (i:=6) (N:=some 54) #[true,true,true,true,true,true,true,false,false,false,false,false] rfl rfl (by kernel_rfl) (by decide) (fun K hK=>?_)
  refine mget_ok_step (κ:=ByteArray) (P:=Try.prog) (t:=90) (k:=9) (e:=3) (m:=L) (by rfl) rfl (.tmp 51) (.tmp 53) rfl ckCodec Try.underlying90 Try.underlying3 ckZero (HM.out.below HXe.out HM.out.lt) rfl key rfl HYS.out ?_
  refine hK.out _ _ ((blk_cell (blk_below BG.out HXe.out) 1).trans rfl) (fun hHeld=>?_)
  clear hK K
  refine norm_ (a':=?_) ?_ ?_
  rotate_left
  ·show Act.put _ (some 54) _=_
   simp only [Act.put,List.setIfInBounds_toArray,List.set_cons_zero,List.set_cons_succ,i64_w,i32_w]
   rfl
  refine pure_ (i:=7) (N:=some 47) (v:=?_) (a':=?_) #[true,true,true,true,true,true,true,true,false,false,false,false] rfl rfl (by kernel_rfl) (fun _ _ _ h=>h) (Or.inl ⟨by rfl,?_⟩) ?_ ?_
  rotate_left
  ·intro w'
   go_simp
   with_reducible rfl
  rotate_left
  ·simp only [Act.put,List.setIfInBounds_toArray,List.set_cons_zero,List.set_cons_succ,i64_w,i32_w]
   rfl
  refine pure_ (i:=8) (N:=some 55) (v:=?_) (a':=?_) #[true,true,true,true,true,true,true,true,true,false,false,false] rfl rfl (by kernel_rfl) (fun _ _ _ h=>h) (Or.inl ⟨by rfl,?_⟩) ?_ ?_
  rotate_left
  ·intro w'
   go_simp
   with_reducible rfl
  rotate_left
  ·simp only [Act.put,List.setIfInBounds_toArray,List.set_cons_zero,List.set_cons_succ,i64_w,i32_w]
   rfl
  refine pure_ (i:=9) (N:=some 56) (v:=?_) (a':=?_) #[true,true,true,true,true,true,true,true,true,true,false,false] rfl rfl (by kernel_rfl) (fun _ _ _ h=>h) (Or.inl ⟨by rfl,?_⟩) ?_ ?_
  rotate_left
  ·intro w'
   go_simp
   with_reducible rfl
  rotate_left
  ·simp only [Act.put,List.setIfInBounds_toArray,List.set_cons_zero,List.set_cons_succ,i64_w,i32_w]
   rfl
  refine pure_ (i:=10) (N:=some 8) (v:=?_) (a':=?_) #[true,true,true,true,true,true,true,true,true,true,true,false] rfl rfl (by kernel_rfl) (fun _ _ _ h=>h) (Or.inl ⟨by rfl,?_⟩) ?_ ?_
  rotate_left
  ·intro w'
   go_simp
   with_reducible rfl
  rotate_left
  ·simp only [Act.put,List.setIfInBounds_toArray,List.set_cons_zero,List.set_cons_succ,i64_w,i32_w]
   rfl
  refine pure_ (i:=11) (N:=some 9) (v:=?_) (a':=?_) #[true,true,true,true,true,true,true,true,true,true,true,true] rfl rfl (by kernel_rfl) (fun _ _ _ h=>h) (Or.inl ⟨by rfl,?_⟩) ?_ ?_
  rotate_left
  ·intro w'
   go_simp
   with_reducible rfl
  rotate_left
  ·simp only [Act.put,List.setIfInBounds_toArray,List.set_cons_zero,List.set_cons_succ,i64_w,i32_w]
   rfl
  refine done_ (by kernel_rfl) ?_
  clear hHeld
  have hct0:w4.cell? ⟨gt,0,none⟩=some (.int .i64 n):=(blk_cell BTe.out 0).trans rfl
  have hct1:w4.cell? ⟨gt,1,none⟩=some (.string s):=(blk_cell BTe.out 1).trans rfl
  have hcg0:w4.cell? ⟨g,0,none⟩=some (.slice (some ad) owns.length co):=(blk_cell (blk_below BG.out HXe.out) 0).trans rfl
  have hcg1:w4.cell? ⟨g,1,none⟩=some (.map (some mb)):=(blk_cell (blk_below BG.out HXe.out) 1).trans rfl
  have hcg2:w4.cell? ⟨g,2,none⟩=some (.int .i64 v):=(blk_cell (blk_below BG.out HXe.out) 2).trans rfl
  have hxo:=(HXe.out.cell (World.block_lt_of_cell? w _ HXO.out)).trans HXO.out
  by_cases c5:mhas L key=true∧(mget L key=0∨mget L key=1)
  ·rw [if_pos c5] at h
   obtain ⟨⟨n0,s0⟩,h0,h⟩:=Option.bind_eq_some_iff.1 h
   obtain ⟨c,hc,h⟩:=Option.bind_eq_some_iff.1 h
   by_cases c4:c.length < 17592186044416
   case neg=>rw [if_neg c4] at h;cases h
   rw [if_pos c4] at h
   obtain ⟨y0,hy0⟩:∃ y:List Int,y=c ++ [mget L key]:=⟨_,rfl⟩
   rw [← hy0] at h
   dsimp only at h
   have H0:=Aside0.mk h0
   have HCP:=Aside0.mk hc
   have HL:=Aside0.mk c4
   have HB0:=Aside0.mk h
   have Y0:=Aside0.mk hy0
   clear h0 hc c4 h hy0
   obtain ⟨c5,c6⟩:=c5
   generalize mget L key=mg at c6 H0 HB0 Y0 ⊢
   rcases c6 with rfl|rfl
   ·go_wp2_with (first|((with_reducible refine gate_callee (f:=108) rfl ?_);(try (refine gate_guard (by rfl) ?_;dsimp only));refine goesL_ (some 70) rfl rfl Try.func108 (by kernel_rfl) rfl #[.agg #[.int .i64 n,.string s],.int .i64 0] rfl (by (try simp only [List.map_toArray,List.map_cons,List.map_nil]);first|done|rfl) ?_;(with_reducible refine (impl_Table_half.calls n s 0 n0 s0 _ H0.out).mono ?_);rintro e w5 ⟨rfl,hb⟩;refine ⟨_,rfl,?_⟩;have HXf:=Aside0.mk (below_step HXe.out hb);have BTf:=Aside0.mk (blk_below BTe.out hb);clear hct0 hct1 hcg0 hcg1 hcg2 hxo;clear hb HXe BTe;have hct0:w5.cell? ⟨gt,0,none⟩=some (.int .i64 n):=(blk_cell BTf.out 0).trans rfl;have hct1:w5.cell? ⟨gt,1,none⟩=some (.string s):=(blk_cell BTf.out 1).trans rfl;have hcg0:w5.cell? ⟨g,0,none⟩=some (.slice (some ad) owns.length co):=(blk_cell (blk_below BG.out HXf.out) 0).trans rfl;have hcg1:w5.cell? ⟨g,1,none⟩=some (.map (some mb)):=(blk_cell (blk_below BG.out HXf.out) 1).trans rfl;have hcg2:w5.cell? ⟨g,2,none⟩=some (.int .i64 v):=(blk_cell (blk_below BG.out HXf.out) 2).trans rfl;have hxo:=(HXf.out.cell (World.block_lt_of_cell? w _ HXO.out)).trans HXO.out)|((with_reducible refine gate_callee (f:=115) rfl ?_);(try (refine gate_guard (by rfl) ?_;dsimp only));refine goesL_ (some 72) rfl rfl Try.func115 (by kernel_rfl) rfl #[.slice Av vals.length cv] rfl (by (try simp only [List.map_toArray,List.map_cons,List.map_nil]);first|done|rfl) ?_;(with_reducible refine (impl_copyInts.calls Av cv vals c _ (Kd.C_below HV.out HXf.out) HVC.out HCP.out).mono ?_);rintro e w6 ⟨v_,rfl,ho,hb⟩;refine ⟨_,rfl,?_⟩;have RO:=Aside0.mk (Kd.R_lower ho HXf.out.size);clear ho;have HXg:=Aside0.mk (below_step HXf.out hb);have BTg:=Aside0.mk (blk_below BTf.out hb);clear hct0 hct1 hcg0 hcg1 hcg2 hxo;clear hb HXf BTf;have hct0:w6.cell? ⟨gt,0,none⟩=some (.int .i64 n):=(blk_cell BTg.out 0).trans rfl;have hct1:w6.cell? ⟨gt,1,none⟩=some (.string s):=(blk_cell BTg.out 1).trans rfl;have hcg0:w6.cell? ⟨g,0,none⟩=some (.slice (some ad) owns.length co):=(blk_cell (blk_below BG.out HXg.out) 0).trans rfl;have hcg1:w6.cell? ⟨g,1,none⟩=some (.map (some mb)):=(blk_cell (blk_below BG.out HXg.out) 1).trans rfl;have hcg2:w6.cell? ⟨g,2,none⟩=some (.int .i64 v):=(blk_cell (blk_below BG.out HXg.out) 2).trans rfl;have hxo:=(HXg.out.cell (World.block_lt_of_cell? w _ HXO.out)).trans HXO.out)|((with_reducible refine gate_builtin (b := .append) (xs:=#[.tmp 72,.tmp 74]) rfl ?_);(try (refine gate_guard (by rfl) ?_;dsimp only));at_builtin;refine Kd.R_append (Kd.int .i64) (w0:=w) w.heap.size rfl (.tmp 72) (.tmp 74) 33 3 (.int .i64 0) 8 rfl Try.underlying33 info3 rfl (by decide) (by decide) _ c 0 [.int .i64 0] (fun _=>True) (fun _=>False) rfl rfl rfl (fun _ hk=>hk.elim) (fun _ _=>trivial) RO.out HXg.out (below_size HXg.out) (by have:=HL.out;omega) ?_;intro v_ w7 ho hbx hg hat;rw [show c ++ [0]=y0 from Y0.out.symm] at ho;have BTh:=Aside0.mk (blk_grown (g:=gt) (o := .cells #[.int .i64 n,.string s] 29 (0,0)) BTg.out hg (Kd.R_ne RO.out BTg.out (by decide)));have HXh:=Aside0.mk hbx;have HRh:=Aside0.mk ho;clear ho hbx hg hat HXg BTg;obtain ⟨Ah,ch,eh⟩:=Kd.R_slice HRh.out;subst eh;clear hct0 hct1 hcg0 hcg1 hcg2 hxo;have hct0:w7.cell? ⟨gt,0,none⟩=some (.int .i64 n):=(blk_cell BTh.out 0).trans rfl;have hct1:w7.cell? ⟨gt,1,none⟩=some (.string s):=(blk_cell BTh.out 1).trans rfl;have hcg0:w7.cell? ⟨g,0,none⟩=some (.slice (some ad) owns.length co):=(blk_cell (blk_below BG.out HXh.out) 0).trans rfl;have hcg1:w7.cell? ⟨g,1,none⟩=some (.map (some mb)):=(blk_cell (blk_below BG.out HXh.out) 1).trans rfl;have hcg2:w7.cell? ⟨g,2,none⟩=some (.int .i64 v):=(blk_cell (blk_below BG.out HXh.out) 2).trans rfl;have hxo:=(HXh.out.cell (World.block_lt_of_cell? w _ HXO.out)).trans HXO.out)|((with_reducible refine gate_callee (f:=97) rfl ?_);(try (refine gate_guard (by rfl) ?_;dsimp only));refine goesL_ (some 76) rfl rfl Try.func97 (by kernel_rfl) rfl #[.pointer (some ⟨g,0,none⟩),.agg #[.int .i64 n0,.string s0],.slice Ah y0.length ch] rfl (by (try simp only [List.map_toArray,List.map_cons,List.map_nil]);first|done|rfl) ?_;(with_reducible refine (ih g (some ad) co owns mb L v n0 s0 Ah y0.length ch y0 r _ rfl (blk_below BG.out HXh.out) (Kd.C_below HO.out HXh.out) HOC.out (HM.out.below HXh.out HM.out.lt) (Kd.R_reads' HRh.out).2.2 (Kd.R_reads' HRh.out).2.1 HB0.out).mono ?_);rintro e w8 ⟨rfl,hb⟩;refine ⟨_,rfl,?_⟩;have HXi:=Aside0.mk (below_step HXh.out hb);have BTi:=Aside0.mk (blk_below BTh.out hb);clear hct0 hct1 hcg0 hcg1 hcg2 hxo;clear hb HXh BTh;have hct0:w8.cell? ⟨gt,0,none⟩=some (.int .i64 n):=(blk_cell BTi.out 0).trans rfl;have hct1:w8.cell? ⟨gt,1,none⟩=some (.string s):=(blk_cell BTi.out 1).trans rfl;have hcg0:w8.cell? ⟨g,0,none⟩=some (.slice (some ad) owns.length co):=(blk_cell (blk_below BG.out HXi.out) 0).trans rfl;have hcg1:w8.cell? ⟨g,1,none⟩=some (.map (some mb)):=(blk_cell (blk_below BG.out HXi.out) 1).trans rfl;have hcg2:w8.cell? ⟨g,2,none⟩=some (.int .i64 v):=(blk_cell (blk_below BG.out HXi.out) 2).trans rfl;have hxo:=(HXi.out.cell (World.block_lt_of_cell? w _ HXO.out)).trans HXO.out))
    go_ret
    exact ⟨rfl,HXi.out⟩
   ·go_wp2_with (first|((with_reducible refine gate_callee (f:=108) rfl ?_);(try (refine gate_guard (by rfl) ?_;dsimp only));refine goesL_ (some 70) rfl rfl Try.func108 (by kernel_rfl) rfl #[.agg #[.int .i64 n,.string s],.int .i64 1] rfl (by (try simp only [List.map_toArray,List.map_cons,List.map_nil]);first|done|rfl) ?_;(with_reducible refine (impl_Table_half.calls n s 1 n0 s0 _ H0.out).mono ?_);rintro e w5 ⟨rfl,hb⟩;refine ⟨_,rfl,?_⟩;have HXf:=Aside0.mk (below_step HXe.out hb);have BTf:=Aside0.mk (blk_below BTe.out hb);clear hct0 hct1 hcg0 hcg1 hcg2 hxo;clear hb HXe BTe;have hct0:w5.cell? ⟨gt,0,none⟩=some (.int .i64 n):=(blk_cell BTf.out 0).trans rfl;have hct1:w5.cell? ⟨gt,1,none⟩=some (.string s):=(blk_cell BTf.out 1).trans rfl;have hcg0:w5.cell? ⟨g,0,none⟩=some (.slice (some ad) owns.length co):=(blk_cell (blk_below BG.out HXf.out) 0).trans rfl;have hcg1:w5.cell? ⟨g,1,none⟩=some (.map (some mb)):=(blk_cell (blk_below BG.out HXf.out) 1).trans rfl;have hcg2:w5.cell? ⟨g,2,none⟩=some (.int .i64 v):=(blk_cell (blk_below BG.out HXf.out) 2).trans rfl;have hxo:=(HXf.out.cell (World.block_lt_of_cell? w _ HXO.out)).trans HXO.out)|((with_reducible refine gate_callee (f:=115) rfl ?_);(try (refine gate_guard (by rfl) ?_;dsimp only));refine goesL_ (some 72) rfl rfl Try.func115 (by kernel_rfl) rfl #[.slice Av vals.length cv] rfl (by (try simp only [List.map_toArray,List.map_cons,List.map_nil]);first|done|rfl) ?_;(with_reducible refine (impl_copyInts.calls Av cv vals c _ (Kd.C_below HV.out HXf.out) HVC.out HCP.out).mono ?_);rintro e w6 ⟨v_,rfl,ho,hb⟩;refine ⟨_,rfl,?_⟩;have RO:=Aside0.mk (Kd.R_lower ho HXf.out.size);clear ho;have HXg:=Aside0.mk (below_step HXf.out hb);have BTg:=Aside0.mk (blk_below BTf.out hb);clear hct0 hct1 hcg0 hcg1 hcg2 hxo;clear hb HXf BTf;have hct0:w6.cell? ⟨gt,0,none⟩=some (.int .i64 n):=(blk_cell BTg.out 0).trans rfl;have hct1:w6.cell? ⟨gt,1,none⟩=some (.string s):=(blk_cell BTg.out 1).trans rfl;have hcg0:w6.cell? ⟨g,0,none⟩=some (.slice (some ad) owns.length co):=(blk_cell (blk_below BG.out HXg.out) 0).trans rfl;have hcg1:w6.cell? ⟨g,1,none⟩=some (.map (some mb)):=(blk_cell (blk_below BG.out HXg.out) 1).trans rfl;have hcg2:w6.cell? ⟨g,2,none⟩=some (.int .i64 v):=(blk_cell (blk_below BG.out HXg.out) 2).trans rfl;have hxo:=(HXg.out.cell (World.block_lt_of_cell? w _ HXO.out)).trans HXO.out)|((with_reducible refine gate_builtin (b := .append) (xs:=#[.tmp 72,.tmp 74]) rfl ?_);(try (refine gate_guard (by rfl) ?_;dsimp only));at_builtin;refine Kd.R_append (Kd.int .i64) (w0:=w) w.heap.size rfl (.tmp 72) (.tmp 74) 33 3 (.int .i64 0) 8 rfl Try.underlying33 info3 rfl (by decide) (by decide) _ c 1 [.int .i64 1] (fun _=>True) (fun _=>False) rfl rfl rfl (fun _ hk=>hk.elim) (fun _ _=>trivial) RO.out HXg.out (below_size HXg.out) (by have:=HL.out;omega) ?_;intro v_ w7 ho hbx hg hat;rw [show c ++ [1]=y0 from Y0.out.symm] at ho;have BTh:=Aside0.mk (blk_grown (g:=gt) (o := .cells #[.int .i64 n,.string s] 29 (0,0)) BTg.out hg (Kd.R_ne RO.out BTg.out (by decide)));have HXh:=Aside0.mk hbx;have HRh:=Aside0.mk ho;clear ho hbx hg hat HXg BTg;obtain ⟨Ah,ch,eh⟩:=Kd.R_slice HRh.out;subst eh;clear hct0 hct1 hcg0 hcg1 hcg2 hxo;have hct0:w7.cell? ⟨gt,0,none⟩=some (.int .i64 n):=(blk_cell BTh.out 0).trans rfl;have hct1:w7.cell? ⟨gt,1,none⟩=some (.string s):=(blk_cell BTh.out 1).trans rfl;have hcg0:w7.cell? ⟨g,0,none⟩=some (.slice (some ad) owns.length co):=(blk_cell (blk_below BG.out HXh.out) 0).trans rfl;have hcg1:w7.cell? ⟨g,1,none⟩=some (.map (some mb)):=(blk_cell (blk_below BG.out HXh.out) 1).trans rfl;have hcg2:w7.cell? ⟨g,2,none⟩=some (.int .i64 v):=(blk_cell (blk_below BG.out HXh.out) 2).trans rfl;have hxo:=(HXh.out.cell (World.block_lt_of_cell? w _ HXO.out)).trans HXO.out)|((with_reducible refine gate_callee (f:=97) rfl ?_);(try (refine gate_guard (by rfl) ?_;dsimp only));refine goesL_ (some 76) rfl rfl Try.func97 (by kernel_rfl) rfl #[.pointer (some ⟨g,0,none⟩),.agg #[.int .i64 n0,.string s0],.slice Ah y0.length ch] rfl (by (try simp only [List.map_toArray,List.map_cons,List.map_nil]);first|done|rfl) ?_;(with_reducible refine (ih g (some ad) co owns mb L v n0 s0 Ah y0.length ch y0 r _ rfl (blk_below BG.out HXh.out) (Kd.C_below HO.out HXh.out) HOC.out (HM.out.below HXh.out HM.out.lt) (Kd.R_reads' HRh.out).2.2 (Kd.R_reads' HRh.out).2.1 HB0.out).mono ?_);rintro e w8 ⟨rfl,hb⟩;refine ⟨_,rfl,?_⟩;have HXi:=Aside0.mk (below_step HXh.out hb);have BTi:=Aside0.mk (blk_below BTh.out hb);clear hct0 hct1 hcg0 hcg1 hcg2 hxo;clear hb HXh BTh;have hct0:w8.cell? ⟨gt,0,none⟩=some (.int .i64 n):=(blk_cell BTi.out 0).trans rfl;have hct1:w8.cell? ⟨gt,1,none⟩=some (.string s):=(blk_cell BTi.out 1).trans rfl;have hcg0:w8.cell? ⟨g,0,none⟩=some (.slice (some ad) owns.length co):=(blk_cell (blk_below BG.out HXi.out) 0).trans rfl;have hcg1:w8.cell? ⟨g,1,none⟩=some (.map (some mb)):=(blk_cell (blk_below BG.out HXi.out) 1).trans rfl;have hcg2:w8.cell? ⟨g,2,none⟩=some (.int .i64 v):=(blk_cell (blk_below BG.out HXi.out) 2).trans rfl;have hxo:=(HXi.out.cell (World.block_lt_of_cell? w _ HXO.out)).trans HXO.out))
    go_ret
    exact ⟨rfl,HXi.out⟩
  ·rw [if_neg c5] at h
   obtain rfl:=Option.some.inj h
   clear h
   cases c6:mhas L key with
   | false =>
    go_wp2
    go_ret
    exact ⟨rfl,HXe.out⟩
   | true =>
    have c7:¬ mget L key=0:=fun e=>c5 ⟨c6,.inl e⟩
    have c8:¬ mget L key=1:=fun e=>c5 ⟨c6,.inr e⟩
    have d7:(mget L key != 0)=true:=bne_iff_ne.2 c7
    have d8:(mget L key != 1)=true:=bne_iff_ne.2 c8
    clear c5 c7 c8
    go_wp2
    go_ret
    exact ⟨rfl,HXe.out⟩
end Go.Proofs.Ytlpfmhikahlcoaa.G
namespace Go.Proofs.Ytlpfmhikahlcoaa.G
open Go.Proofs.Ytlpfmhikahlcoaa.Sh
open Go.RowKit Go.Proofs.YtlpfmhikahlcoaaW.PrintWords Go.Proofs.YtlpfmhikahlcoaaW.PrintLast Go.Proofs.YtlpfmhikahlcoaaW.PrintMore
attribute [local go_sem] max2_int min2_int max_two min_two max_three min_three max_four min_four
set_option linter.unusedVariables false
set_option linter.unusedSimpArgs false
mutual
def impl_Owner.j0:Nat→List Bool→Int→List Bool→Bool→Option (List Bool)
 | 0,_,_,_,_=>none
 | k + 1,x0,x1,x5,x14=>if x14=true then (some x5) else (impl_Owner.l0 k x1 x5 x0 (x0.length:Int) 0)
def impl_Owner.l0:Nat→Int→List Bool→List Bool→Int→Int→Option (List Bool)
 | 0,_,_,_,_,_=>none
 | k + 1,x1,x5,x16,x17,x18=>if x18 < x17 then (if 0≤x18 then (if x18 < (x16.length:Int) then (if x5.length < 140737488355328 then (impl_Owner.l0 k x1 (x5 ++ [((rdOf false x16 x18) == (x1 == 0))]) x16 x17 (wrap64 (x18 + 1))) else (none)) else (none)) else (none)) else (some x5)
end
def impl_Owner.f (k:Nat) (l0:List Bool) (a1:Int):Option (List Bool):=(some (([]:List Bool):List Bool)).bind fun y101=>(if a1=0 then (impl_Owner.j0 k l0 a1 y101 false) else (impl_Owner.j0 k l0 a1 y101 (a1 != 1)))
set_option maxHeartbeats 8000000 in
set_option maxRecDepth 100000 in
theorem impl_Owner.calls (k:Nat) (A0:Option Addr) (c0:Nat) (l0:List Bool) (a1:Int) (r:List Bool) (w:World) (hr0:Kd.C Kd.bool w A0 l0.length l0) (hc0:l0.length≤c0) (h:impl_Owner.f k l0 a1=some r) :
  Calls Try.prog 90 #[.slice A0 l0.length c0,.int .i64 a1] w fun e w'=>∃ v0_:Value,e = .returned (v0_)∧Kd.R Kd.bool 4 w' w.heap.size (fun _=>True) v0_ r∧Below w.heap.size w w':=by
 have HR0:=Aside0.mk hr0;have HC0:=Aside0.mk hc0;clear hr0 hc0;have HB:=Aside0.mk (Below.refl w.heap.size w);have H:((some (([]:List Bool):List Bool)).bind fun y101=>(if a1=0 then (impl_Owner.j0 k l0 a1 y101 false) else (impl_Owner.j0 k l0 a1 y101 (a1 != 1))))=some r:=h;clear h;obtain ⟨y101,hy101⟩:∃ y_:List Bool,y_=(([]:List Bool)):=⟨_,rfl⟩
 replace H:(if a1=0 then (impl_Owner.j0 k l0 a1 y101 false) else (impl_Owner.j0 k l0 a1 y101 (a1 != 1)))=some r:=by first|(rw [hy101];with_reducible exact H)|(have H2_:=(Option.bind_some _ _).symm.trans H;rw [hy101];with_reducible exact H2_)|(have H2_:=(Option.bind_some _ _).symm.trans H;with_reducible exact H2_)|with_reducible exact H|(rw [hy101];exact H)|exact H
 have Ny101:=Aside0.mk hy101;clear hy101;have HC3:=Aside0.mk H;clear H
 go_enter Try.func90,Try.ntmps90
 go_upto_region 2 with (first|((with_reducible refine gate_dst (N:=8) rfl ?_);refine Kd.R_lit Kd.bool _ 4 ?hg (N:=8) ?hd (xs:=([]:List Bool)) (inner:=[]) (ok:=fun _=>True) (okp:=fun _=>True) ?hr ?hp (fun _ hk=>hk) trivial (Below.refl _ _) (Nat.le_refl _) (by simp) ?_;(case hd=>rfl);(case hg=>rfl);(case hr=>first|(go_simp;done)|(go_simp;rfl));(case hp=>exact (Reps.none _ _));intro v102 w4 ho5 hb hg_ hnew_;clear hg_ hnew_;(first|rw [← Ny101.out] at ho5|(simp only [Int.reduceToNat] at ho5;rw [← Ny101.out] at ho5));have A5:=Aside0.mk (Kd.R_lower ho5 (below_size (tb HB)));replace HB:=Aside0.mk (below_step (tb HB) hb);clear hb ho5))
 (try simp only [Act.put,List.setIfInBounds_toArray,List.set_cons_zero,List.set_cons_succ])
 go_cut [14] (fun v14 wc=>∃ (kq:Nat) (A2:Bool),v14 = .bool A2∧Aside0 (impl_Owner.j0 kq l0 a1 y101 A2=some r)∧Aside0 (kq≤k)∧Aside0 (Kd.R Kd.bool 4 wc w.heap.size (fun _=>True) v102 y101)∧Aside0 (Below w.heap.size w wc))
 case first =>
  have H:=HC3.out;clear HC3
  by_cases c6:a1=0
  ·rw [if_pos c6] at H;have c6b0:(a1 == 0)=true:=beq_iff_eq.mpr c6;have c6b1:(a1 != 0)=false:=bne_eq_false_iff_eq.mpr c6;clear c6;(first|rw [c6b0]|(simp only [i64_w,i32_w];rw [c6b0])|skip);have H':=Aside0.mk H;clear H;go_wp2;go_meet
   case rel=>exact ⟨_,(false),(by first|rfl|(simp;done)|(simp [*];done)),H',⟨by first|omega|exact Nat.le_refl _⟩,⟨ra A5⟩,⟨by exact tb HB⟩⟩
  ·rw [if_neg c6] at H;have c6b0:(a1 == 0)=false:=beq_eq_false_iff_ne.mpr c6;have c6b1:(a1 != 0)=true:=bne_iff_ne.mpr c6;(first|rw [c6b0]|(simp only [i64_w,i32_w];rw [c6b0])|skip);have H':=Aside0.mk H;clear H;go_wp2;go_meet
   case rel=>exact ⟨_,((a1 != 1)),(by first|rfl|(simp;done)|(simp [*];done)),H',⟨by first|omega|exact Nat.le_refl _⟩,⟨ra A5⟩,⟨by exact tb HB⟩⟩
 case rest =>
  clear HC3;(try clear p2);(try clear c6);(try clear c6b0);(try clear c6b1);obtain ⟨kq,A2,rfl,HA,HJ2,A3,HB⟩:=hcut
  cases kq with
  | zero=>exact absurd HA.out (by simp [impl_Owner.j0])
  | succ kj2 =>
   have H:=HA.out;clear HA;simp only [impl_Owner.j0] at H
   by_cases c7:A2=true
   ·subst c7
    have H1:(some y101)=some r:=by rw [if_pos rfl] at H;exact H
    clear H;have H:=H1;clear H1;obtain rfl:=os H;go_wp2;go_ret;exact ⟨_,er,ra A3,tb HB⟩
   ·replace c7:=Bool.eq_false_iff.mpr c7;subst c7
    have H1:(impl_Owner.l0 kj2 a1 y101 l0 (l0.length:Int) 0)=some r:=by rw [if_neg (show ¬ (false=true) by decide)] at H;exact H
    clear H;have H:=H1;clear H1;have H':=Aside0.mk H;clear H;go_wp2
    go_loopg [5,18] kj2 (fun kq v5 v18 w'=>∃ (A4:List Bool) (A1:Int),v18 = .int .i64 A1∧Aside0 (impl_Owner.l0 kq a1 A4 l0 (l0.length:Int) A1=some r)∧Aside0 (kq≤kj2)∧Aside0 (Kd.R Kd.bool 4 w' w.heap.size (fun _=>True) v5 A4)∧Aside0 (Below w.heap.size w w'))
    case atStart=>exact ⟨(y101),(0),(by first|rfl|(simp;done)|(simp [*];done)),H',⟨Nat.le_refl _⟩,⟨ra A3⟩,⟨by exact tb HB⟩⟩
    case round =>
     clear H';(try clear p2);(try clear c6);(try clear c6b0);(try clear c6b1);(try clear c7);(try clear p2);obtain ⟨A4,A1,rfl,HA,HK2,A3,HB⟩:=hrel
     cases gk with
     | zero=>exact absurd HA.out (by simp [impl_Owner.l0])
     | succ k2 =>
      have H:=HA.out;clear HA;simp only [impl_Owner.l0] at H
      by_cases c8:A1 < (l0.length:Int)
      ·rw [if_pos c8] at H;have c8b0:decide (A1 < (l0.length:Int))=true:=decide_eq_true c8;clear c8
       by_cases c9:0≤A1
       ·rw [if_pos c9] at H;have c9b0:decide (0≤A1)=true:=decide_eq_true c9;clear c9
        by_cases c10:A1 < (l0.length:Int)
        ·rw [if_pos c10] at H;have c10b0:decide (A1 < (l0.length:Int))=true:=decide_eq_true c10;clear c10
         by_cases c11:A4.length < 140737488355328
         ·rw [if_pos c11] at H;have LMc11:=Aside0.mk c11;clear c11;obtain ⟨y105,hy105⟩:∃ y_:List Bool,y_=(A4 ++ [((rdOf false l0 A1) == (a1 == 0))]):=⟨_,rfl⟩
          replace H:(impl_Owner.l0 k2 a1 y105 l0 (l0.length:Int) (wrap64 (A1 + 1)))=some r:=by first|(rw [hy105];with_reducible exact H)|(have H2_:=(Option.bind_some _ _).symm.trans H;rw [hy105];with_reducible exact H2_)|(have H2_:=(Option.bind_some _ _).symm.trans H;with_reducible exact H2_)|with_reducible exact H|(rw [hy105];exact H)|exact H
          have Ny105:=Aside0.mk hy105;clear hy105;have H':=Aside0.mk H;clear H;have p104:0≤(A1:Int):=od;have q104:A1 < (l0.length:Int):=od;obtain ⟨ad104,e104,hx104_0⟩:=Kd.at_bool HR0.out A1 p104 q104;cases e104;replace hx104_0:=ct HB hx104_0;replace p104:=eq_true p104;replace q104:=eq_true q104;go_wp2_with (first|((with_reducible refine gate_builtin (b := .append) (xs:=#[.tmp 22,.tmp 27]) rfl ?_);at_builtin;refine Kd.R_append Kd.bool (w0:=w) w.heap.size rfl (.tmp 22) (.tmp 27) 22 4 (.bool false) 1 rfl Try.underlying22 info4 rfl (by decide) (by omega) u5 A4 ((rdOf false l0 A1) == (a1 == 0)) [.bool ((rdOf false l0 A1) == (a1 == 0))] (fun _=>True) (fun _=>False) rfl rfl ?aP (fun _ hk=>hk.elim) ?aF ?aO ?aB ?aS ?aL ?_;(case aP=>exact rfl);(case aB=>exact (tb HB));(case aF=>exact (fun _ _=>trivial));(case aO=>exact (ra A3));(case aS=>exact (below_size (tb HB)));(case aL=>have:=LMc11.out;omega);intro v106 w12 ho hb hg hat;rw [← Ny105.out] at ho;replace HB:=Aside0.mk (hb);have A6:=Aside0.mk (ho);clear A3;clear ho hb hg hat));go_roundg k2
          case measure=>have:=HJ2.out;have:=HK2.out;omega
          case rel=>exact ⟨(y105),(wrap64 (A1 + 1)),(by first|rfl|(simp;done)|(simp [*];done)),H',⟨by have:=HJ2.out;have:=HK2.out;omega⟩,⟨ra A6⟩,⟨by exact tb HB⟩⟩
         ·rw [if_neg c11] at H;exact absurd H (by simp)
        ·rw [if_neg c10] at H;exact absurd H (by simp)
       ·rw [if_neg c9] at H;exact absurd H (by simp)
      ·rw [if_neg c8] at H;have c8b0:decide (A1 < (l0.length:Int))=false:=decide_eq_false c8;clear c8;obtain rfl:=os H;go_wp2;go_ret;exact ⟨_,er,ra A3,tb HB⟩
def impl_within.f (a0:Int) (a1:Int) (a2:Int):Option (Bool):=if a0 ≥ a1 then (some (decide (a0≤a2))) else (some false)
set_option maxHeartbeats 8000000 in
set_option maxRecDepth 100000 in
theorem impl_within.calls (a0:Int) (a1:Int) (a2:Int) (r:Bool) (w:World) (h:impl_within.f a0 a1 a2=some r) :
  Calls Try.prog 64 #[.int .i64 a0,.int .i64 a1,.int .i64 a2] w fun e w'=>e = .returned (.bool r)∧Drawn0 w w':=by
 have H:(if a0 ≥ a1 then (some (decide (a0≤a2))) else (some false))=some r:=h;clear h
 by_cases c4:a0 ≥ a1
 ·rw [if_pos c4] at H;have c4b0:decide (a1≤a0)=true:=decide_eq_true c4;clear c4;obtain rfl:=os H
  go_enter Try.func64,Try.ntmps64
  go_wp2;go_ret;exact ⟨e1,dn⟩
 ·rw [if_neg c4] at H;have c4b0:decide (a1≤a0)=false:=decide_eq_false c4;clear c4;obtain rfl:=os H
  go_enter Try.func64,Try.ntmps64
  go_wp2;go_ret;exact ⟨e1,dn⟩
end Go.Proofs.Ytlpfmhikahlcoaa.G
namespace Go.Proofs.Ytlpfmhikahlcoaa.G
open Go.Proofs.Ytlpfmhikahlcoaa.Sh Go.RowKit Go.Proofs.YtlpfmhikahlcoaaW.PrintWords Go.Proofs.YtlpfmhikahlcoaaW.PrintLast Go.Proofs.YtlpfmhikahlcoaaW.PrintMore
attribute [local go_sem] max2_int min2_int max_two min_two max_three min_three max_four min_four
set_option linter.unusedVariables false
set_option linter.unusedSimpArgs false
mutual
def impl_TableOk.j0:Nat→Bool→Int→ByteArray→Option (Bool)
 | 0,_,_,_=>none
 | k + 1,x17,x102000,x102001=>if x17=true then (some false) else (impl_TableOk.l0 k (x102001.size:Int) 0 x102000 x102001)
def impl_TableOk.l0:Nat→Int→Int→Int→ByteArray→Option (Bool)
 | 0,_,_,_,_=>none
 | k + 1,x20,x21,x102000,x102001=>if x21 < x20 then (if 0≤x21 then (if x21 < (x102001.size:Int) then (if (bt x102001 x21)=48 then (impl_TableOk.l0 k x20 (wrap64 (x21 + 1)) x102000 x102001) else (if (bt x102001 x21)=49 then (impl_TableOk.l0 k x20 (wrap64 (x21 + 1)) x102000 x102001) else (some false))) else (none)) else (none)) else (some true)
end
def impl_TableOk.f (k:Nat) (A2:Int) (A1:ByteArray):Option (Bool):=(impl_within.f A2 0 12).bind fun A6=>(if A6=true then (if 0≤(IntKind.u64.wrap (A2)) then (impl_TableOk.j0 k ((A1.size:Int) != (shl .i64 1 (IntKind.u64.wrap (A2)))) A2 A1) else (none)) else (impl_TableOk.j0 k true A2 A1))
set_option maxHeartbeats 80000000 in
set_option maxRecDepth 100000 in
theorem impl_TableOk.calls (k:Nat) (A2:Int) (A1:ByteArray) (r:Bool) (w:World) (h:impl_TableOk.f k A2 A1=some r) :
  Calls Try.prog 106 #[.agg #[.int .i64 A2,.string A1]] w fun e w'=>e = .returned (.bool r)∧Below w.heap.size w w':=by
 have hu29:=Try.underlying29;have HB:=Aside0.mk (Below.refl w.heap.size w);have H:((impl_within.f A2 0 12).bind fun A6=>(if A6=true then (if 0≤(IntKind.u64.wrap (A2)) then (impl_TableOk.j0 k ((A1.size:Int) != (shl .i64 1 (IntKind.u64.wrap (A2)))) A2 A1) else (none)) else (impl_TableOk.j0 k true A2 A1)))=some r:=h;clear h;have HC2:=Aside0.mk H;clear H
 go_enter Try.func106,Try.ntmps106
 go_upto_region 1 with (first|((with_reducible refine gate_dst (N:=1) rfl ?_);(try (refine gate_guard (by rfl) ?_;dsimp only));refine bx (N:=1) (cs:=#[.int .i64 A2,.string A1]) (t:=29) ?_;intro A7 hg w3 hbox hb;have A3:=Aside0.mk (hbox);have GW101:=bz0 hg HB;have GE101:=bz0 hg HB;replace HB:=bs0 HB hb;clear hb hbox hg))
 (try simp only [Act.put,List.setIfInBounds_toArray,List.set_cons_zero,List.set_cons_succ])
 go_cut [17] (fun v17 wc=>∃ (kq:Nat) (A5:Bool),v17 = .bool A5∧Aside0 (impl_TableOk.j0 kq A5 A2 A1=some r)∧Aside0 (kq≤k)∧Aside0 (wc.heap[A7]? = some (.cells #[.int .i64 A2,.string A1] 29 (0,0)))∧Aside0 (Below w.heap.size w wc))
 case first =>
  have H:=HC2.out;clear HC2;replace H:=ob H;obtain ⟨A6,A40,H⟩:=H
  try dsimp only at H
  have A4:=Aside0.mk A40;clear A40
  by_cases c5:A6=true
  ·subst c5
   have H1:(if 0≤(IntKind.u64.wrap (A2)) then (impl_TableOk.j0 k ((A1.size:Int) != (shl .i64 1 (IntKind.u64.wrap (A2)))) A2 A1) else (none))=some r:=by rw [if_pos rfl] at H;exact H
   clear H;have H:=H1;clear H1;obtain ⟨ji6,hji6⟩:∃ j_:Int,(IntKind.u64.wrap (A2))=j_:=⟨_,rfl⟩
   replace H:(if 0≤(ji6) then (impl_TableOk.j0 k ((A1.size:Int) != (shl .i64 1 (ji6))) A2 A1) else (none))=some r:=by first|(rw [hji6] at H;exact H)|(simp only [hji6] at H ⊢;exact H)
   (try rw [hji6] at A4)
   by_cases c7:0≤(ji6)
   ·rw [if_pos c7] at H;have c7b0:=eq_true c7;have c7b1:decide (0≤(ji6))=true:=decide_eq_true c7;clear c7;obtain ⟨ji8,hji8⟩:∃ j_:Int,(shl .i64 1 (ji6))=j_:=⟨_,rfl⟩
    replace H:(impl_TableOk.j0 k ((A1.size:Int) != (ji8)) A2 A1)=some r:=by first|(rw [hji8] at H;exact H)|(simp only [hji8] at H ⊢;exact H)
    (try rw [hji8] at A4)
    have hji8_:(IntKind.i64.wrap (1 * 2 ^ min (ji6).toNat 64))=ji8:=hji8;have hji8z:(ji6)≤64→(IntKind.i64.wrap (1 * 2 ^ (ji6).toNat))=ji8:=shl_small hji8
    have hji8u:(IntKind.i64.wrap (2 ^ min (ji6).toNat 64))=ji8:=by have h_:=hji8_;rw [Int.one_mul] at h_;exact h_
    have hji8v:(ji6)≤64→(IntKind.i64.wrap (2 ^ (ji6).toNat))=ji8:=fun hle_=>by have h_:=hji8z hle_;rw [Int.one_mul] at h_;exact h_
    have hji8y:(wrap64 (1 * 2 ^ min (ji6).toNat 64))=ji8:=(i64_w _).symm.trans hji8_
    have hji8x:(ji6)≤64→(wrap64 (1 * 2 ^ (ji6).toNat))=ji8:=fun h_=>(i64_w _).symm.trans (hji8z h_)
    have H':=Aside0.mk H;clear H;have hcz9__:=c2_ A3;have hfz9__:=f_ A3;go_wp2_with (first|((with_reducible refine gate_callee (f:=64) rfl ?_);refine goesL_ (some 6) rfl rfl Try.func64 (by kernel_rfl) rfl #[.int .i64 A2,.int .i64 0,.int .i64 12] rfl ml ?_;(with_reducible refine (impl_within.calls A2 0 12 true _ A4.out).mono ?_);rintro e w' ⟨rfl,⟨nd,rfl⟩⟩;refine ⟨_,rfl,?_⟩));go_meet
    case rel=>exact ⟨_,(((A1.size:Int) != (ji8))),(by first|rfl|(simp;done)|(simp only [← hji8] <;> (first|rfl|simp))|(simp [*];done)),(by first|exact H'|(rw [hji8];exact H')),⟨by first|omega|exact Nat.le_refl _⟩,⟨dr A3⟩,⟨by exact tb HB⟩⟩
   ·rw [if_neg c7] at H;exact absurd H (by simp)
  ·replace c5:=Bool.eq_false_iff.mpr c5;subst c5
   have H1:(impl_TableOk.j0 k true A2 A1)=some r:=by rw [if_neg (show ¬ (false=true) by decide)] at H;exact H
   clear H;have H:=H1;clear H1;have H':=Aside0.mk H;clear H;have hcz10__:=c2_ A3;have hfz10__:=f_ A3;go_wp2_with (first|((with_reducible refine gate_callee (f:=64) rfl ?_);refine goesL_ (some 6) rfl rfl Try.func64 (by kernel_rfl) rfl #[.int .i64 A2,.int .i64 0,.int .i64 12] rfl ml ?_;(with_reducible refine (impl_within.calls A2 0 12 false _ A4.out).mono ?_);rintro e w' ⟨rfl,⟨nd,rfl⟩⟩;refine ⟨_,rfl,?_⟩));go_meet
   case rel=>exact ⟨_,(true),(by first|rfl|(simp;done)|(simp [*];done)),(by first|exact H'|(rw [hji8];exact H')),⟨by first|omega|exact Nat.le_refl _⟩,⟨dr A3⟩,⟨by exact tb HB⟩⟩
 case rest =>
  clear HC2;(try clear c1);(try clear p2);(try clear c5);(try clear c6);(try clear p6);(try clear c7);(try clear c7b0);(try clear c7b1);(try clear c10);(try clear hcz10__);(try clear hcz9__);(try clear hfz10__);(try clear hfz9__);obtain ⟨kq,A5,rfl,HA,HJ1,A3,HB⟩:=hcut
  cases kq with
    | zero=>exact absurd HA.out (by simp [impl_TableOk.j0])
    | succ kj1 =>
   have H:=HA.out;clear HA;simp only [impl_TableOk.j0] at H
   by_cases c11:A5=true
   ·subst c11
    have H1:(some false)=some r:=by rw [if_pos rfl] at H;exact H
    clear H;have H:=H1;clear H1;obtain rfl:=os H;go_wp2;go_ret;exact ⟨er,tb HB⟩
   ·replace c11:=Bool.eq_false_iff.mpr c11;subst c11
    have H1:(impl_TableOk.l0 kj1 (A1.size:Int) 0 A2 A1)=some r:=by rw [if_neg (show ¬ (false=true) by decide)] at H;exact H
    clear H;have H:=H1;clear H1;have H':=Aside0.mk H;clear H;have hcz12__:=c2_ A3;have hfz12__:=f_ A3;go_wp2
    go_loopg [21] kj1 (fun kq v21 w'=>∃ (A0:Int),v21 = .int .i64 A0∧Aside0 (impl_TableOk.l0 kq (A1.size:Int) A0 A2 A1=some r)∧Aside0 (kq≤kj1)∧Aside0 (w'.heap[A7]? = some (.cells #[.int .i64 A2,.string A1] 29 (0,0)))∧Aside0 (Below w.heap.size w w'))
    case atStart=>exact ⟨(0),(by first|rfl|(simp;done)|(simp [*];done)),H',⟨Nat.le_refl _⟩,⟨dr A3⟩,⟨by exact tb HB⟩⟩
    case round =>
     clear H';(try clear c1);(try clear p2);(try clear c5);(try clear c6);(try clear p6);(try clear c7);(try clear c7b0);(try clear c7b1);(try clear c10);(try clear c11);(try clear hcz10__);(try clear hcz12__);(try clear hcz9__);(try clear hfz10__);(try clear hfz12__);(try clear hfz9__);(try clear p2);(try clear p6);obtain ⟨A0,rfl,HA,HK2,A3,HB⟩:=hrel
     cases gk with
          | zero=>exact absurd HA.out (by simp [impl_TableOk.l0])
          | succ k2 =>
      have H:=HA.out;clear HA;simp only [impl_TableOk.l0] at H
      by_cases c13:A0 < (A1.size:Int)
      ·rw [if_pos c13] at H;have c13b0:decide (A0 < (A1.size:Int))=true:=decide_eq_true c13;clear c13
       by_cases c14:0≤A0
       ·rw [if_pos c14] at H;have c14b0:decide (0≤A0)=true:=decide_eq_true c14;clear c14
        by_cases c15:A0 < (A1.size:Int)
        ·rw [if_pos c15] at H;have c15b0:decide (A0 < (A1.size:Int))=true:=decide_eq_true c15;clear c15
         by_cases c17:(bt A1 A0)=48
         ·rw [if_pos c17] at H;have c17b0:((bt A1 A0) == 48)=true:=beq_iff_eq.mpr c17;have c17b1:((bt A1 A0) != 48)=false:=bne_eq_false_iff_eq.mpr c17;clear c17;have H':=Aside0.mk H;clear H;have hcz18__:=c2_ A3;have hfz18__:=f_ A3;have p16:0≤(A0:Int):=od;have q16:A0 < (A1.size:Int):=od;have hx16:=bt_at A1 A0;replace p16:=eq_true p16;replace q16:=eq_true q16;go_wp2;go_roundg k2
          case measure=>have:=HJ1.out;have:=HK2.out;omega
          case rel=>exact ⟨(wrap64 (A0 + 1)),(by first|rfl|(simp;done)|(simp [*];done)),(by first|exact H'|(rw [hji8];exact H')),⟨by have:=HJ1.out;have:=HK2.out;omega⟩,⟨dr A3⟩,⟨by exact tb HB⟩⟩
         ·rw [if_neg c17] at H;have c17b0:((bt A1 A0) == 48)=false:=beq_eq_false_iff_ne.mpr c17;have c17b1:((bt A1 A0) != 48)=true:=bne_iff_ne.mpr c17
          by_cases c20:(bt A1 A0)=49
          ·rw [if_pos c20] at H;have c20b0:((bt A1 A0) == 49)=true:=beq_iff_eq.mpr c20;have c20b1:((bt A1 A0) != 49)=false:=bne_eq_false_iff_eq.mpr c20;clear c20;have H':=Aside0.mk H;clear H;have hcz21__:=c2_ A3;have hfz21__:=f_ A3;have p16:0≤(A0:Int):=od;have q16:A0 < (A1.size:Int):=od;have hx16:=bt_at A1 A0;replace p16:=eq_true p16;replace q16:=eq_true q16;have p19:0≤(A0:Int):=od;have q19:A0 < (A1.size:Int):=od;have hx19:=bt_at A1 A0;replace p19:=eq_true p19;replace q19:=eq_true q19;go_wp2;go_roundg k2
           case measure=>have:=HJ1.out;have:=HK2.out;omega
           case rel=>exact ⟨(wrap64 (A0 + 1)),(by first|rfl|(simp;done)|(simp [*];done)),(by first|exact H'|(rw [hji8];exact H')),⟨by have:=HJ1.out;have:=HK2.out;omega⟩,⟨dr A3⟩,⟨by exact tb HB⟩⟩
          ·rw [if_neg c20] at H;have c20b0:((bt A1 A0) == 49)=false:=beq_eq_false_iff_ne.mpr c20;have c20b1:((bt A1 A0) != 49)=true:=bne_iff_ne.mpr c20;obtain rfl:=os H;have hcz22__:=c2_ A3;have hfz22__:=f_ A3;have p16:0≤(A0:Int):=od;have q16:A0 < (A1.size:Int):=od;have hx16:=bt_at A1 A0;replace p16:=eq_true p16;replace q16:=eq_true q16;have p19:0≤(A0:Int):=od;have q19:A0 < (A1.size:Int):=od;have hx19:=bt_at A1 A0;replace p19:=eq_true p19;replace q19:=eq_true q19;go_wp2;go_ret;exact ⟨er,tb HB⟩
        ·rw [if_neg c15] at H;exact absurd H (by simp)
       ·rw [if_neg c14] at H;exact absurd H (by simp)
      ·rw [if_neg c13] at H;have c13b0:decide (A0 < (A1.size:Int))=false:=decide_eq_false c13;clear c13;obtain rfl:=os H;go_wp2;go_ret;exact ⟨er,tb HB⟩
end Go.Proofs.Ytlpfmhikahlcoaa.G
namespace Go.Proofs.Ytlpfmhikahlcoaa.G
open Go.Proofs.Ytlpfmhikahlcoaa.Sh
open Go.RowKit Go.Proofs.YtlpfmhikahlcoaaW.PrintWords Go.Proofs.YtlpfmhikahlcoaaW.PrintLast Go.Proofs.YtlpfmhikahlcoaaW.PrintMore
attribute [local go_sem] max2_int min2_int max_two min_two max_three min_three max_four min_four
set_option linter.unusedVariables false
set_option linter.unusedSimpArgs false
def impl_rowed.f (k:Nat) (l0:List Bool) (a1_0:Int) (a1_1:ByteArray):Option (Bool):=(impl_TableOk.f k a1_0 a1_1).bind fun A4=>(if A4=true then (some ((l0.length:Int) == a1_0)) else (some false))
set_option maxHeartbeats 8000000 in
set_option maxRecDepth 100000 in
theorem impl_rowed.calls (k:Nat) (A0:Option Addr) (c0:Nat) (l0:List Bool) (a1_0:Int) (a1_1:ByteArray) (r:Bool) (w:World) (hr0:Kd.C Kd.bool w A0 l0.length l0) (hc0:l0.length≤c0) (h:impl_rowed.f k l0 a1_0 a1_1=some r) :
  Calls Try.prog 59 #[.slice A0 l0.length c0,.agg #[.int .i64 a1_0,.string a1_1]] w fun e w'=>e = .returned (.bool r)∧Below w.heap.size w w':=by
 have hu29:=Try.underlying29;have HR0:=Aside0.mk hr0;have HC0:=Aside0.mk hc0;clear hr0 hc0;have HB:=Aside0.mk (Below.refl w.heap.size w);have H:((impl_TableOk.f k a1_0 a1_1).bind fun A4=>(if A4=true then (some ((l0.length:Int) == a1_0)) else (some false)))=some r:=h;clear h;replace H:=ob H;obtain ⟨A4,A30,H⟩:=H;replace H:(if A4=true then (some ((l0.length:Int) == a1_0)) else (some false))=some r:=H;have A3:=Aside0.mk A30;clear A30
 by_cases c4:A4=true
 ·subst c4
  have H1:(some ((l0.length:Int) == a1_0))=some r:=by rw [if_pos rfl] at H;exact H
  clear H;have H:=H1;clear H1;obtain rfl:=os H
  go_enter Try.func59,Try.ntmps59
  go_wp2_with (first|((with_reducible refine gate_dst (N:=3) rfl ?_);(try (refine gate_guard (by rfl) ?_;dsimp only));refine bx (N:=3) (cs:=#[.int .i64 a1_0,.string a1_1]) (t:=29) ?_;intro A2 hg w5 hbox hb;have A1:=Aside0.mk (hbox);have A5:=Aside0.mk ((by rw [hg];exact (below_size (tb HB)):w.heap.size≤A2));have A6:=Aside0.mk ((by rw [hg];exact (below_size (tb HB)):w.heap.size≤A2));replace HB:=Aside0.mk (below_step (tb HB) hb);clear hb hbox hg;have hcz6__:=c2_ A1;have hfz6__:=f_ A1)|((with_reducible refine gate_callee (f:=106) rfl ?_);refine goesL_ (some 6) rfl rfl Try.func106 (by kernel_rfl) rfl #[.agg #[.int .i64 a1_0,.string a1_1]] rfl ml ?_;(with_reducible refine (impl_TableOk.calls k a1_0 a1_1 true _ A3.out).mono ?_);rintro e w7 ⟨rfl,hb⟩;refine ⟨_,rfl,?_⟩;replace A1:=Aside0.mk (blk_below (g:=A2) (o := .cells #[.int .i64 a1_0,.string a1_1] 29 (0,0)) (dr A1) hb);replace HB:=Aside0.mk (below_step (tb HB) hb);(try clear hb);(try clear hb2);(try clear hk);(try clear hi);have hcz8__:=c2_ A1;have hfz8__:=f_ A1));go_ret;exact ⟨er,tb HB⟩
 ·replace c4:=Bool.eq_false_iff.mpr c4;subst c4
  have H1:(some false)=some r:=by rw [if_neg (show ¬ (false=true) by decide)] at H;exact H
  clear H;have H:=H1;clear H1;obtain rfl:=os H
  go_enter Try.func59,Try.ntmps59
  go_wp2_with (first|((with_reducible refine gate_dst (N:=3) rfl ?_);(try (refine gate_guard (by rfl) ?_;dsimp only));refine bx (N:=3) (cs:=#[.int .i64 a1_0,.string a1_1]) (t:=29) ?_;intro A2 hg w9 hbox hb;have A1:=Aside0.mk (hbox);have A5:=Aside0.mk ((by rw [hg];exact (below_size (tb HB)):w.heap.size≤A2));have A6:=Aside0.mk ((by rw [hg];exact (below_size (tb HB)):w.heap.size≤A2));replace HB:=Aside0.mk (below_step (tb HB) hb);clear hb hbox hg;have hcz10__:=c2_ A1;have hfz10__:=f_ A1)|((with_reducible refine gate_callee (f:=106) rfl ?_);refine goesL_ (some 6) rfl rfl Try.func106 (by kernel_rfl) rfl #[.agg #[.int .i64 a1_0,.string a1_1]] rfl ml ?_;(with_reducible refine (impl_TableOk.calls k a1_0 a1_1 false _ A3.out).mono ?_);rintro e w11 ⟨rfl,hb⟩;refine ⟨_,rfl,?_⟩;replace A1:=Aside0.mk (blk_below (g:=A2) (o := .cells #[.int .i64 a1_0,.string a1_1] 29 (0,0)) (dr A1) hb);replace HB:=Aside0.mk (below_step (tb HB) hb);(try clear hb);(try clear hb2);(try clear hk);(try clear hi)));go_ret;exact ⟨er,tb HB⟩
end Go.Proofs.Ytlpfmhikahlcoaa.G
namespace Go.Proofs.Ytlpfmhikahlcoaa.G
open Go.Proofs.Ytlpfmhikahlcoaa.Sh
open Go.RowKit Go.Proofs.YtlpfmhikahlcoaaW.PrintWords Go.Proofs.YtlpfmhikahlcoaaW.PrintLast Go.Proofs.YtlpfmhikahlcoaaW.PrintMore
attribute [local go_sem] max2_int min2_int max_two min_two max_three min_three max_four min_four
set_option linter.unusedVariables false
set_option linter.unusedSimpArgs false
open Go.Proofs.Ytlpfmhikahlcoaa.Mp
def impl_Checks.f (k:Nat) (l0:List Bool) (a1_0:Int) (a1_1:ByteArray) (a2:Int) (l3:List (S108)):Option Bool :=
 (impl_rowed.f k l0 a1_0 a1_1).bind fun t=>if t=true then (if a2=0∨a2=1 then (if 5000 < l3.length then some false else
  (impl_Owner.f k l0 a2).bind fun owns=>(pkF k l3 [] 0).bind fun L=>ckF k owns L a2 a1_0 a1_1 []) else some false) else some false
set_option maxHeartbeats 8000000 in
set_option maxRecDepth 100000 in
theorem impl_Checks.calls (k:Nat) (A0:Option Addr) (c0:Nat) (l0:List Bool) (a1_0:Int) (a1_1:ByteArray) (a2:Int) (A3:Option Addr) (c3:Nat) (l3:List (S108)) (r:Bool) (w:World) (hr0:Kd.C Kd.bool w A0 l0.length l0) (hc0:l0.length≤c0) (hr3:Kd.C k108 w A3 l3.length l3) (hc3:l3.length≤c3) (h:impl_Checks.f k l0 a1_0 a1_1 a2 l3=some r) :
  Calls Try.prog 53 #[.slice A0 l0.length c0,.agg #[.int .i64 a1_0,.string a1_1],.int .i64 a2,.slice A3 l3.length c3] w fun e w'=>e = .returned (.bool r)∧Below w.heap.size w w':=by
 have HR0:=Aside0.mk hr0;have HC0:=Aside0.mk hc0;have HR3:=Aside0.mk hr3;have HC3:=Aside0.mk hc3;clear hr0 hc0 hr3 hc3;unfold impl_Checks.f at h;obtain ⟨t,ht,h⟩:=Option.bind_eq_some_iff.1 h;have HT:=Aside0.mk ht;clear ht
 cases t with
 | false =>
  rw [if_neg (by decide)] at h;obtain rfl:=Option.some.inj h;clear h
  go_enter Try.func53,Try.ntmps53
  go_wp2_with (first|((with_reducible refine gate_dst (N:=5) rfl ?_);refine bx (N:=5) (cs:=#[.int .i64 a1_0,.string a1_1]) (t:=29) ?_;intro gt hg w1 hbox hb;have BTa:=Aside0.mk hbox;have HXa:=Aside0.mk hb;obtain ⟨hct0,hct1⟩:=c2_ BTa;clear hg hbox hb)|((with_reducible refine gate_callee (f:=59) rfl ?_);(try (refine gate_guard (by rfl) ?_;dsimp only));refine goesL_ (some 12) rfl rfl Try.func59 (by kernel_rfl) rfl #[.slice A0 l0.length c0,.agg #[.int .i64 a1_0,.string a1_1]] rfl ml ?_;(with_reducible refine (impl_rowed.calls k A0 c0 l0 a1_0 a1_1 false _ (Kd.C_below HR0.out HXa.out) HC0.out HT.out).mono ?_);rintro e w2 ⟨rfl,hb⟩;refine ⟨_,rfl,?_⟩;have HXb:=Aside0.mk (below_step HXa.out hb);have BTb:=Aside0.mk (blk_below BTa.out hb);clear hct0 hct1;clear hb HXa BTa;obtain ⟨hct0,hct1⟩:=c2_ BTb));go_ret;exact ⟨rfl,HXb.out⟩
 | true =>
 rw [if_pos rfl] at h
 by_cases c1:a2=0∨a2=1
 case neg =>
  rw [if_neg c1] at h;obtain rfl:=Option.some.inj h;clear h;have d1:(a2 != 0)=true:=bne_iff_ne.2 (fun e=>c1 (.inl e));have d2:(a2 != 1)=true:=bne_iff_ne.2 (fun e=>c1 (.inr e));clear c1
  go_enter Try.func53,Try.ntmps53
  go_wp2_with (first|((with_reducible refine gate_dst (N:=5) rfl ?_);refine bx (N:=5) (cs:=#[.int .i64 a1_0,.string a1_1]) (t:=29) ?_;intro gt hg w1 hbox hb;have BTa:=Aside0.mk hbox;have HXa:=Aside0.mk hb;obtain ⟨hct0,hct1⟩:=c2_ BTa;clear hg hbox hb)|((with_reducible refine gate_callee (f:=59) rfl ?_);(try (refine gate_guard (by rfl) ?_;dsimp only));refine goesL_ (some 12) rfl rfl Try.func59 (by kernel_rfl) rfl #[.slice A0 l0.length c0,.agg #[.int .i64 a1_0,.string a1_1]] rfl ml ?_;(with_reducible refine (impl_rowed.calls k A0 c0 l0 a1_0 a1_1 true _ (Kd.C_below HR0.out HXa.out) HC0.out HT.out).mono ?_);rintro e w2 ⟨rfl,hb⟩;refine ⟨_,rfl,?_⟩;have HXb:=Aside0.mk (below_step HXa.out hb);have BTb:=Aside0.mk (blk_below BTa.out hb);clear hct0 hct1;clear hb HXa BTa;obtain ⟨hct0,hct1⟩:=c2_ BTb));go_ret;exact ⟨rfl,HXb.out⟩
 rw [if_pos c1] at h
 by_cases c2:5000 < l3.length
 ·rw [if_pos c2] at h;obtain rfl:=Option.some.inj h;clear h;have d3:decide (5000 < l3.length)=true:=decide_eq_true c2;have d4:decide ((5000:Int) < (l3.length:Int))=true:=decide_eq_true (by omega);clear c2
  rcases c1 with rfl|rfl
  ·go_enter Try.func53,Try.ntmps53
   go_wp2_with (first|((with_reducible refine gate_dst (N:=5) rfl ?_);refine bx (N:=5) (cs:=#[.int .i64 a1_0,.string a1_1]) (t:=29) ?_;intro gt hg w1 hbox hb;have BTa:=Aside0.mk hbox;have HXa:=Aside0.mk hb;obtain ⟨hct0,hct1⟩:=c2_ BTa;clear hg hbox hb)|((with_reducible refine gate_callee (f:=59) rfl ?_);(try (refine gate_guard (by rfl) ?_;dsimp only));refine goesL_ (some 12) rfl rfl Try.func59 (by kernel_rfl) rfl #[.slice A0 l0.length c0,.agg #[.int .i64 a1_0,.string a1_1]] rfl ml ?_;(with_reducible refine (impl_rowed.calls k A0 c0 l0 a1_0 a1_1 true _ (Kd.C_below HR0.out HXa.out) HC0.out HT.out).mono ?_);rintro e w2 ⟨rfl,hb⟩;refine ⟨_,rfl,?_⟩;have HXb:=Aside0.mk (below_step HXa.out hb);have BTb:=Aside0.mk (blk_below BTa.out hb);clear hct0 hct1;clear hb HXa BTa;obtain ⟨hct0,hct1⟩:=c2_ BTb));go_ret;exact ⟨rfl,HXb.out⟩
  ·go_enter Try.func53,Try.ntmps53
   go_wp2_with (first|((with_reducible refine gate_dst (N:=5) rfl ?_);refine bx (N:=5) (cs:=#[.int .i64 a1_0,.string a1_1]) (t:=29) ?_;intro gt hg w1 hbox hb;have BTa:=Aside0.mk hbox;have HXa:=Aside0.mk hb;obtain ⟨hct0,hct1⟩:=c2_ BTa;clear hg hbox hb)|((with_reducible refine gate_callee (f:=59) rfl ?_);(try (refine gate_guard (by rfl) ?_;dsimp only));refine goesL_ (some 12) rfl rfl Try.func59 (by kernel_rfl) rfl #[.slice A0 l0.length c0,.agg #[.int .i64 a1_0,.string a1_1]] rfl ml ?_;(with_reducible refine (impl_rowed.calls k A0 c0 l0 a1_0 a1_1 true _ (Kd.C_below HR0.out HXa.out) HC0.out HT.out).mono ?_);rintro e w2 ⟨rfl,hb⟩;refine ⟨_,rfl,?_⟩;have HXb:=Aside0.mk (below_step HXa.out hb);have BTb:=Aside0.mk (blk_below BTa.out hb);clear hct0 hct1;clear hb HXa BTa;obtain ⟨hct0,hct1⟩:=c2_ BTb));go_ret;exact ⟨rfl,HXb.out⟩
 rw [if_neg c2] at h;have d3:decide (5000 < l3.length)=false:=decide_eq_false c2;have d4:decide ((5000:Int) < (l3.length:Int))=false:=decide_eq_false (by omega);clear c2;obtain ⟨owns,hw,h⟩:=Option.bind_eq_some_iff.1 h;obtain ⟨L,hp,h⟩:=Option.bind_eq_some_iff.1 h;have HW:=Aside0.mk hw;have HP:=Aside0.mk hp;have HF:=Aside0.mk h;clear hw hp h
 rcases c1 with rfl|rfl
 ·go_enter Try.func53,Try.ntmps53
  go_wp2_with (first|((with_reducible refine gate_dst (N:=5) rfl ?_);refine bx (N:=5) (cs:=#[.int .i64 a1_0,.string a1_1]) (t:=29) ?_;intro gt hg w1 hbox hb;have BTa:=Aside0.mk hbox;have HXa:=Aside0.mk hb;obtain ⟨hct0,hct1⟩:=c2_ BTa;clear hg hbox hb)|((with_reducible refine gate_callee (f:=59) rfl ?_);(try (refine gate_guard (by rfl) ?_;dsimp only));refine goesL_ (some 12) rfl rfl Try.func59 (by kernel_rfl) rfl #[.slice A0 l0.length c0,.agg #[.int .i64 a1_0,.string a1_1]] rfl ml ?_;(with_reducible refine (impl_rowed.calls k A0 c0 l0 a1_0 a1_1 true _ (Kd.C_below HR0.out HXa.out) HC0.out HT.out).mono ?_);rintro e w2 ⟨rfl,hb⟩;refine ⟨_,rfl,?_⟩;have HXb:=Aside0.mk (below_step HXa.out hb);have BTb:=Aside0.mk (blk_below BTa.out hb);clear hct0 hct1;clear hb HXa BTa;obtain ⟨hct0,hct1⟩:=c2_ BTb)|((with_reducible refine gate_callee (f:=90) rfl ?_);(try (refine gate_guard (by rfl) ?_;dsimp only));refine goesL_ (some 29) rfl rfl Try.func90 (by kernel_rfl) rfl #[.slice A0 l0.length c0,.int .i64 0] rfl ml ?_;(with_reducible refine (impl_Owner.calls k A0 c0 l0 0 owns _ (Kd.C_below HR0.out HXb.out) HC0.out HW.out).mono ?_);rintro e w3 ⟨v_,rfl,ho,hb⟩;refine ⟨_,rfl,?_⟩;have HO:=Aside0.mk (Kd.R_lower ho HXb.out.size);clear ho;have HXc:=Aside0.mk (below_step HXb.out hb);have BTc:=Aside0.mk (blk_below BTb.out hb);clear hct0 hct1;clear hb HXb BTb;obtain ⟨hct0,hct1⟩:=c2_ BTc;obtain ⟨Ao,co,eo⟩:=Kd.R_slice HO.out;subst eo)|((with_reducible refine gate_callee (f:=96) rfl ?_);(try (refine gate_guard (by rfl) ?_;dsimp only));refine goesL_ (some 31) rfl rfl Try.func96 (by kernel_rfl) rfl #[.slice A3 l3.length c3] rfl ml ?_;(with_reducible refine (picksOf.calls k A3 c3 l3 L _ (Kd.C_below HR3.out HXc.out) HC3.out HP.out).mono ?_);rintro e w4 ⟨mb,rfl,hm,hmg,hb⟩;refine ⟨_,rfl,?_⟩;have HM:=Aside0.mk hm;have A1:=Aside0.mk (Kd.R_below HO.out hb);clear hm hmg HO;have HXd:=Aside0.mk (below_step HXc.out hb);have BTd:=Aside0.mk (blk_below BTc.out hb);clear hct0 hct1;clear hb HXc BTc;obtain ⟨hct0,hct1⟩:=c2_ BTd)|((with_reducible refine gate_dst (N:=34) rfl ?_);refine bx (N:=34) (cs:=#[.slice Ao owns.length co,.map (some mb),.int .i64 0]) (t:=116) ?_;intro g hg w5 hbox hb;have BG:=Aside0.mk hbox;have HM2:=Aside0.mk (HM.out.below hb HM.out.lt);have A2:=Aside0.mk (Kd.R_below A1.out hb);clear hg hbox A1 HM;have HXe:=Aside0.mk (below_step HXd.out hb);have BTe:=Aside0.mk (blk_below BTd.out hb);clear hct0 hct1;clear hb HXd BTd;obtain ⟨hct0,hct1⟩:=c2_ BTe)|((with_reducible refine gate_callee (f:=97) rfl ?_);(try (refine gate_guard (by rfl) ?_;dsimp only));refine goesL_ (some 37) rfl rfl Try.func97 (by kernel_rfl) rfl #[.pointer (some ⟨g,0,none⟩),.agg #[.int .i64 a1_0,.string a1_1],.slice none 0 0] rfl ml ?_;(with_reducible refine (ck_walk.calls k g Ao co owns mb L 0 a1_0 a1_1 none 0 0 [] r _ rfl BG.out (Kd.R_reads' A2.out).2.2 (Kd.R_reads' A2.out).2.1 HM2.out (Kd.C_nil _ _) (Nat.le_refl _) HF.out).mono ?_);rintro e w6 ⟨rfl,hb⟩;refine ⟨_,rfl,?_⟩;have HXf:=Aside0.mk (below_step HXe.out hb);clear hb));go_ret;exact ⟨rfl,HXf.out⟩
 ·go_enter Try.func53,Try.ntmps53
  go_wp2_with (first|((with_reducible refine gate_dst (N:=5) rfl ?_);refine bx (N:=5) (cs:=#[.int .i64 a1_0,.string a1_1]) (t:=29) ?_;intro gt hg w1 hbox hb;have BTa:=Aside0.mk hbox;have HXa:=Aside0.mk hb;obtain ⟨hct0,hct1⟩:=c2_ BTa;clear hg hbox hb)|((with_reducible refine gate_callee (f:=59) rfl ?_);(try (refine gate_guard (by rfl) ?_;dsimp only));refine goesL_ (some 12) rfl rfl Try.func59 (by kernel_rfl) rfl #[.slice A0 l0.length c0,.agg #[.int .i64 a1_0,.string a1_1]] rfl ml ?_;(with_reducible refine (impl_rowed.calls k A0 c0 l0 a1_0 a1_1 true _ (Kd.C_below HR0.out HXa.out) HC0.out HT.out).mono ?_);rintro e w2 ⟨rfl,hb⟩;refine ⟨_,rfl,?_⟩;have HXb:=Aside0.mk (below_step HXa.out hb);have BTb:=Aside0.mk (blk_below BTa.out hb);clear hct0 hct1;clear hb HXa BTa;obtain ⟨hct0,hct1⟩:=c2_ BTb)|((with_reducible refine gate_callee (f:=90) rfl ?_);(try (refine gate_guard (by rfl) ?_;dsimp only));refine goesL_ (some 29) rfl rfl Try.func90 (by kernel_rfl) rfl #[.slice A0 l0.length c0,.int .i64 1] rfl ml ?_;(with_reducible refine (impl_Owner.calls k A0 c0 l0 1 owns _ (Kd.C_below HR0.out HXb.out) HC0.out HW.out).mono ?_);rintro e w3 ⟨v_,rfl,ho,hb⟩;refine ⟨_,rfl,?_⟩;have HO:=Aside0.mk (Kd.R_lower ho HXb.out.size);clear ho;have HXc:=Aside0.mk (below_step HXb.out hb);have BTc:=Aside0.mk (blk_below BTb.out hb);clear hct0 hct1;clear hb HXb BTb;obtain ⟨hct0,hct1⟩:=c2_ BTc;obtain ⟨Ao,co,eo⟩:=Kd.R_slice HO.out;subst eo)|((with_reducible refine gate_callee (f:=96) rfl ?_);(try (refine gate_guard (by rfl) ?_;dsimp only));refine goesL_ (some 31) rfl rfl Try.func96 (by kernel_rfl) rfl #[.slice A3 l3.length c3] rfl ml ?_;(with_reducible refine (picksOf.calls k A3 c3 l3 L _ (Kd.C_below HR3.out HXc.out) HC3.out HP.out).mono ?_);rintro e w4 ⟨mb,rfl,hm,hmg,hb⟩;refine ⟨_,rfl,?_⟩;have HM:=Aside0.mk hm;have A1:=Aside0.mk (Kd.R_below HO.out hb);clear hm hmg HO;have HXd:=Aside0.mk (below_step HXc.out hb);have BTd:=Aside0.mk (blk_below BTc.out hb);clear hct0 hct1;clear hb HXc BTc;obtain ⟨hct0,hct1⟩:=c2_ BTd)|((with_reducible refine gate_dst (N:=34) rfl ?_);refine bx (N:=34) (cs:=#[.slice Ao owns.length co,.map (some mb),.int .i64 1]) (t:=116) ?_;intro g hg w5 hbox hb;have BG:=Aside0.mk hbox;have HM2:=Aside0.mk (HM.out.below hb HM.out.lt);have A2:=Aside0.mk (Kd.R_below A1.out hb);clear hg hbox A1 HM;have HXe:=Aside0.mk (below_step HXd.out hb);have BTe:=Aside0.mk (blk_below BTd.out hb);clear hct0 hct1;clear hb HXd BTd;obtain ⟨hct0,hct1⟩:=c2_ BTe)|((with_reducible refine gate_callee (f:=97) rfl ?_);(try (refine gate_guard (by rfl) ?_;dsimp only));refine goesL_ (some 37) rfl rfl Try.func97 (by kernel_rfl) rfl #[.pointer (some ⟨g,0,none⟩),.agg #[.int .i64 a1_0,.string a1_1],.slice none 0 0] rfl ml ?_;(with_reducible refine (ck_walk.calls k g Ao co owns mb L 1 a1_0 a1_1 none 0 0 [] r _ rfl BG.out (Kd.R_reads' A2.out).2.2 (Kd.R_reads' A2.out).2.1 HM2.out (Kd.C_nil _ _) (Nat.le_refl _) HF.out).mono ?_);rintro e w6 ⟨rfl,hb⟩;refine ⟨_,rfl,?_⟩;have HXf:=Aside0.mk (below_step HXe.out hb);clear hb));go_ret;exact ⟨rfl,HXf.out⟩
end Go.Proofs.Ytlpfmhikahlcoaa.G
namespace Go.Proofs.Ytlpfmhikahlcoaa.G
open Go.Proofs.Ytlpfmhikahlcoaa.Sh
open Go.RowKit Go.Proofs.YtlpfmhikahlcoaaW.PrintWords Go.Proofs.YtlpfmhikahlcoaaW.PrintLast Go.Proofs.YtlpfmhikahlcoaaW.PrintMore
attribute [local go_sem] max2_int min2_int max_two min_two max_three min_three max_four min_four
set_option linter.unusedVariables false
set_option linter.unusedSimpArgs false
def impl_placeOfBits.l0:Nat→Int→List Int→Int→Int→Option (Int × Bool)
 | 0,_,_,_,_=>none
 | k + 1,x4,x7,x8,x9=>if x9 < x8 then (if 0≤x9 then (if x9 < (x7.length:Int) then (if (rd x7 x9)=0 then (impl_placeOfBits.l0 k (wrap64 ((wrap64 (2 * x4)) + (rd x7 x9))) x7 x8 (wrap64 (x9 + 1))) else (if (rd x7 x9)=1 then (impl_placeOfBits.l0 k (wrap64 ((wrap64 (2 * x4)) + (rd x7 x9))) x7 x8 (wrap64 (x9 + 1))) else (some (0,false)))) else (none)) else (none)) else (some (x4,true))
def impl_placeOfBits.f (k:Nat) (l0:List Int):Option (Int × Bool):=impl_placeOfBits.l0 k 0 l0 (l0.length:Int) 0
set_option maxHeartbeats 8000000 in
set_option maxRecDepth 100000 in
theorem impl_placeOfBits.calls (k:Nat) (A0:Option Addr) (c0:Nat) (l0:List Int) (r1:Int) (r2:Bool) (w:World) (hr0:Kd.C (Kd.int .i64) w A0 l0.length l0) (hc0:l0.length≤c0) (h:impl_placeOfBits.f k l0=some (r1,r2)) :
  Calls Try.prog 77 #[.slice A0 l0.length c0] w fun e w'=>e = .returned (.tuple #[.int .i64 r1,.bool r2])∧Drawn0 w w':=by
 have HR0:=Aside0.mk hr0;have HC0:=Aside0.mk hc0;clear hr0 hc0;have H:(impl_placeOfBits.l0 k 0 l0 (l0.length:Int) 0)=some (r1,r2):=h;clear h;have H':=Aside0.mk H;clear H
 go_enter Try.func77,Try.ntmps77
 go_wp2
 go_loopg [4,9] k (fun kq v4 v9 w'=>∃ (A2:Int) (A1:Int),v4 = .int .i64 A2∧v9 = .int .i64 A1∧Aside0 (impl_placeOfBits.l0 kq A2 l0 (l0.length:Int) A1=some (r1,r2))∧Aside0 (kq≤k)∧Drawn0 w w')
 case atStart=>exact ⟨(0),(0),(by first|rfl|(simp;done)|(simp [*];done)),(by first|rfl|(simp;done)|(simp [*];done)),H',⟨Nat.le_refl _⟩,by repeat (first|exact Drawn0.refl _|apply Drawn0.step)⟩
 case round =>
  clear H';obtain ⟨A2,A1,rfl,rfl,HA,HK1,⟨m1,rfl⟩⟩:=hrel
  cases gk with
  | zero=>exact absurd HA.out (by simp [impl_placeOfBits.l0])
  | succ k1 =>
   have H:=HA.out;clear HA;simp only [impl_placeOfBits.l0] at H
   by_cases c2:A1 < (l0.length:Int)
   ·rw [if_pos c2] at H;have c2b0:decide (A1 < (l0.length:Int))=true:=decide_eq_true c2;clear c2
    by_cases c3:0≤A1
    ·rw [if_pos c3] at H;have c3b0:decide (0≤A1)=true:=decide_eq_true c3;clear c3
     by_cases c4:A1 < (l0.length:Int)
     ·rw [if_pos c4] at H;have c4b0:decide (A1 < (l0.length:Int))=true:=decide_eq_true c4;clear c4
      by_cases c5:(rd l0 A1)=0
      ·rw [if_pos c5] at H;have c5b0:((rd l0 A1) == 0)=true:=beq_iff_eq.mpr c5;have c5b1:((rd l0 A1) != 0)=false:=bne_eq_false_iff_eq.mpr c5;clear c5;have H':=Aside0.mk H;clear H;have p101:0≤(A1:Int):=od;have q101:A1 < (l0.length:Int):=od;obtain ⟨ad101,e101,hx101_0⟩:=Kd.at_int HR0.out A1 p101 q101;cases e101;replace p101:=eq_true p101;replace q101:=eq_true q101;go_wp2;go_roundg k1
       case measure=>have:=HK1.out;omega
       case rel=>exact ⟨(wrap64 ((wrap64 (2 * A2)) + (rd l0 A1))),(wrap64 (A1 + 1)),(by first|rfl|(simp;done)|(simp [*];done)),(by first|rfl|(simp;done)|(simp [*];done)),H',⟨by have:=HK1.out;omega⟩,by repeat (first|exact Drawn0.refl _|apply Drawn0.step)⟩
      ·rw [if_neg c5] at H;have c5b0:((rd l0 A1) == 0)=false:=beq_eq_false_iff_ne.mpr c5;have c5b1:((rd l0 A1) != 0)=true:=bne_iff_ne.mpr c5
       by_cases c6:(rd l0 A1)=1
       ·rw [if_pos c6] at H;have c6b0:((rd l0 A1) == 1)=true:=beq_iff_eq.mpr c6;have c6b1:((rd l0 A1) != 1)=false:=bne_eq_false_iff_eq.mpr c6;clear c6;have H':=Aside0.mk H;clear H;have p101:0≤(A1:Int):=od;have q101:A1 < (l0.length:Int):=od;obtain ⟨ad101,e101,hx101_0⟩:=Kd.at_int HR0.out A1 p101 q101;cases e101;replace p101:=eq_true p101;replace q101:=eq_true q101;go_wp2;go_roundg k1
        case measure=>have:=HK1.out;omega
        case rel=>exact ⟨(wrap64 ((wrap64 (2 * A2)) + (rd l0 A1))),(wrap64 (A1 + 1)),(by first|rfl|(simp;done)|(simp [*];done)),(by first|rfl|(simp;done)|(simp [*];done)),H',⟨by have:=HK1.out;omega⟩,by repeat (first|exact Drawn0.refl _|apply Drawn0.step)⟩
       ·rw [if_neg c6] at H;have c6b0:((rd l0 A1) == 1)=false:=beq_eq_false_iff_ne.mpr c6;have c6b1:((rd l0 A1) != 1)=true:=bne_iff_ne.mpr c6;simp only [Option.some.injEq,Prod.mk.injEq] at H;obtain ⟨rfl,rfl⟩:=H;have p101:0≤(A1:Int):=od;have q101:A1 < (l0.length:Int):=od;obtain ⟨ad101,e101,hx101_0⟩:=Kd.at_int HR0.out A1 p101 q101;cases e101;replace p101:=eq_true p101;replace q101:=eq_true q101;go_wp2;go_ret2;exact ⟨e1,dn⟩
     ·rw [if_neg c4] at H;exact absurd H (by simp)
    ·rw [if_neg c3] at H;exact absurd H (by simp)
   ·rw [if_neg c2] at H;have c2b0:decide (A1 < (l0.length:Int))=false:=decide_eq_false c2;clear c2;simp only [Option.some.injEq,Prod.mk.injEq] at H;obtain ⟨rfl,rfl⟩:=H;go_wp2;go_ret2;exact ⟨e1,dn⟩
def impl_TableAt.j0:Nat→List Int→Bool→Int→ByteArray→Option (Int)
 | 0,_,_,_,_=>none
 | k + 1,x1,x16,x102000,x102001=>if x16=true then (some (-1)) else ((impl_placeOfBits.f k x1).bind fun bt103=>(if bt103.2=true then (if 0≤bt103.1 then (if bt103.1 < (x102001.size:Int) then (some (((bt x102001 bt103.1) - 48) % 256)) else (none)) else (none)) else (some (-1))))
def impl_TableAt.f (k:Nat) (A2:Int) (A0:ByteArray) (l1:List Int):Option (Int):=(impl_TableOk.f k A2 A0).bind fun A8=>(if A8=true then (impl_TableAt.j0 k l1 ((l1.length:Int) != A2) A2 A0) else (impl_TableAt.j0 k l1 true A2 A0))
set_option maxHeartbeats 8000000 in
set_option maxRecDepth 100000 in
theorem impl_TableAt.calls (k:Nat) (A2:Int) (A0:ByteArray) (A1:Option Addr) (c1:Nat) (l1:List Int) (r:Int) (w:World) (hr1:Kd.C (Kd.int .i64) w A1 l1.length l1) (hc1:l1.length≤c1) (h:impl_TableAt.f k A2 A0 l1=some r) :
  Calls Try.prog 100 #[.agg #[.int .i64 A2,.string A0],.slice A1 l1.length c1] w fun e w'=>e = .returned (.int .i64 r)∧Below w.heap.size w w':=by
 have hu29:=Try.underlying29;have HR1:=Aside0.mk hr1;have HC1:=Aside0.mk hc1;clear hr1 hc1;have HB:=Aside0.mk (Below.refl w.heap.size w);have H:((impl_TableOk.f k A2 A0).bind fun A8=>(if A8=true then (impl_TableAt.j0 k l1 ((l1.length:Int) != A2) A2 A0) else (impl_TableAt.j0 k l1 true A2 A0)))=some r:=h;clear h;have HC3:=Aside0.mk H;clear H
 go_enter Try.func100,Try.ntmps100
 go_upto_region 1 with (first|((with_reducible refine gate_dst (N:=2) rfl ?_);(try (refine gate_guard (by rfl) ?_;dsimp only));refine bx (N:=2) (cs:=#[.int .i64 A2,.string A0]) (t:=29) ?_;intro A6 hg w4 hbox hb;have A3:=Aside0.mk (hbox);have GW101:=Aside0.mk ((by rw [hg];exact (below_size (tb HB)):w.heap.size≤A6));have GE101:=Aside0.mk ((by rw [hg];exact (below_size (tb HB)):w.heap.size≤A6));replace HB:=Aside0.mk (below_step (tb HB) hb);clear hb hbox hg))
 (try simp only [Act.put,List.setIfInBounds_toArray,List.set_cons_zero,List.set_cons_succ])
 go_cut [16] (fun v16 wc=>∃ (kq:Nat) (A7:Bool),v16 = .bool A7∧Aside0 (impl_TableAt.j0 kq l1 A7 A2 A0=some r)∧Aside0 (kq≤k)∧Aside0 (wc.heap[A6]? = some (.cells #[.int .i64 A2,.string A0] 29 (0,0)))∧Aside0 (Below w.heap.size w wc))
 case first =>
  have H:=HC3.out;clear HC3;replace H:=ob H;obtain ⟨A8,A50,H⟩:=H
  try dsimp only at H
  have A5:=Aside0.mk A50;clear A50
  by_cases c6:A8=true
  ·subst c6
   have H1:(impl_TableAt.j0 k l1 ((l1.length:Int) != A2) A2 A0)=some r:=by rw [if_pos rfl] at H;exact H
   clear H;have H:=H1;clear H1;have H':=Aside0.mk H;clear H;have hcz7__:=c2_ A3;have hfz7__:=f_ A3;go_wp2_with (first|((with_reducible refine gate_callee (f:=106) rfl ?_);refine goesL_ (some 8) rfl rfl Try.func106 (by kernel_rfl) rfl #[.agg #[.int .i64 A2,.string A0]] rfl ml ?_;(with_reducible refine (impl_TableOk.calls k A2 A0 true _ A5.out).mono ?_);rintro e w8 ⟨rfl,hb⟩;refine ⟨_,rfl,?_⟩;replace A3:=Aside0.mk (blk_below (g:=A6) (o := .cells #[.int .i64 A2,.string A0] 29 (0,0)) (dr A3) hb);replace HB:=Aside0.mk (below_step (tb HB) hb);(try clear hb);(try clear hb2);(try clear hk);(try clear hi);have hcz9__:=c2_ A3;have hfz9__:=f_ A3));go_meet
   case rel=>exact ⟨_,(((l1.length:Int) != A2)),(by first|rfl|(simp;done)|(simp [*];done)),H',⟨by first|omega|exact Nat.le_refl _⟩,⟨dr A3⟩,⟨by exact tb HB⟩⟩
  ·replace c6:=Bool.eq_false_iff.mpr c6;subst c6
   have H1:(impl_TableAt.j0 k l1 true A2 A0)=some r:=by rw [if_neg (show ¬ (false=true) by decide)] at H;exact H
   clear H;have H:=H1;clear H1;have H':=Aside0.mk H;clear H;have hcz10__:=c2_ A3;have hfz10__:=f_ A3;go_wp2_with (first|((with_reducible refine gate_callee (f:=106) rfl ?_);refine goesL_ (some 8) rfl rfl Try.func106 (by kernel_rfl) rfl #[.agg #[.int .i64 A2,.string A0]] rfl ml ?_;(with_reducible refine (impl_TableOk.calls k A2 A0 false _ A5.out).mono ?_);rintro e w11 ⟨rfl,hb⟩;refine ⟨_,rfl,?_⟩;replace A3:=Aside0.mk (blk_below (g:=A6) (o := .cells #[.int .i64 A2,.string A0] 29 (0,0)) (dr A3) hb);replace HB:=Aside0.mk (below_step (tb HB) hb);(try clear hb);(try clear hb2);(try clear hk);(try clear hi)));go_meet
   case rel=>exact ⟨_,(true),(by first|rfl|(simp;done)|(simp [*];done)),H',⟨by first|omega|exact Nat.le_refl _⟩,⟨dr A3⟩,⟨by exact tb HB⟩⟩
 case rest =>
  clear HC3;(try clear c1);(try clear p2);(try clear c6);(try clear c10);(try clear hcz10__);(try clear hcz7__);(try clear hcz9__);(try clear hfz10__);(try clear hfz7__);(try clear hfz9__);obtain ⟨kq,A7,rfl,HA,HJ2,A3,HB⟩:=hcut
  cases kq with
  | zero=>exact absurd HA.out (by simp [impl_TableAt.j0])
  | succ kj2 =>
   have H:=HA.out;clear HA;simp only [impl_TableAt.j0] at H
   by_cases c12:A7=true
   ·subst c12
    have H1:(some (-1))=some r:=by rw [if_pos rfl] at H;exact H
    clear H;have H:=H1;clear H1;obtain rfl:=os H;go_wp2;go_ret;exact ⟨er,tb HB⟩
   ·replace c12:=Bool.eq_false_iff.mpr c12;subst c12
    have H1:((impl_placeOfBits.f kj2 l1).bind fun bt103=>(if bt103.2=true then (if 0≤bt103.1 then (if bt103.1 < (A0.size:Int) then (some (((bt A0 bt103.1) - 48) % 256)) else (none)) else (none)) else (some (-1))))=some r:=by rw [if_neg (show ¬ (false=true) by decide)] at H;exact H
    clear H;have H:=H1;clear H1;replace H:=ob H;obtain ⟨⟨A4,t104⟩,A130,H⟩:=H
    try dsimp only at H
    have A13:=Aside0.mk A130;clear A130
    by_cases c14:t104=true
    ·subst c14
     have H1:(if 0≤A4 then (if A4 < (A0.size:Int) then (some (((bt A0 A4) - 48) % 256)) else (none)) else (none))=some r:=by rw [if_pos rfl] at H;exact H
     clear H;have H:=H1;clear H1
     by_cases c15:0≤A4
     ·rw [if_pos c15] at H;have c15b0:decide (0≤A4)=true:=decide_eq_true c15;clear c15
      by_cases c16:A4 < (A0.size:Int)
      ·rw [if_pos c16] at H;have c16b0:decide (A4 < (A0.size:Int))=true:=decide_eq_true c16;clear c16;obtain rfl:=os H;go_wp2_with (first|((with_reducible refine gate_callee (f:=77) rfl ?_);refine goesL_ (some 19) rfl rfl Try.func77 (by kernel_rfl) rfl #[.slice A1 l1.length c1] rfl ml ?_;(with_reducible refine (impl_placeOfBits.calls kj2 _ _ l1 A4 true _ ?side1 ?side2 A13.out).mono ?_);(case side1=>exact cw (Kd.C_below HR1.out HB.out));(case side2=>exact HC1.out);rintro e w' ⟨rfl,⟨nd,rfl⟩⟩;refine ⟨_,rfl,?_⟩;have hcz18__:=c2_ A3;have hfz18__:=f_ A3;have p17:0≤(A4:Int):=od;have q17:A4 < (A0.size:Int):=od;have hx17:=bt_at A0 A4;replace p17:=eq_true p17;replace q17:=eq_true q17));go_ret;exact ⟨er,tb HB⟩
      ·rw [if_neg c16] at H;exact absurd H (by simp)
     ·rw [if_neg c15] at H;exact absurd H (by simp)
    ·replace c14:=Bool.eq_false_iff.mpr c14;subst c14
     have H1:(some (-1))=some r:=by rw [if_neg (show ¬ (false=true) by decide)] at H;exact H
     clear H;have H:=H1;clear H1;obtain rfl:=os H;go_wp2_with (first|((with_reducible refine gate_callee (f:=77) rfl ?_);refine goesL_ (some 19) rfl rfl Try.func77 (by kernel_rfl) rfl #[.slice A1 l1.length c1] rfl ml ?_;(with_reducible refine (impl_placeOfBits.calls kj2 _ _ l1 A4 false _ ?side1 ?side2 A13.out).mono ?_);(case side1=>exact cw (Kd.C_below HR1.out HB.out));(case side2=>exact HC1.out);rintro e w' ⟨rfl,⟨nd,rfl⟩⟩;refine ⟨_,rfl,?_⟩));go_ret;exact ⟨er,tb HB⟩
end Go.Proofs.Ytlpfmhikahlcoaa.G
