-- texts of this session, merged by a program of it (wip/gen/pack.py)
import Derived.Test.YthipjoioicmcnaaKFnExactTableOf1
import Derived.Test.YthipjoioicmcnaaKFnExactTableOf2
namespace Go.Proofs.Ythipjoioicmcnaa.G
open Go.Proofs.Ythipjoioicmcnaa.Sh
open Go.RowKit Go.Proofs.YthipjoioicmcnaaW.PrintWords Go.Proofs.YthipjoioicmcnaaW.PrintLast Go.Proofs.YthipjoioicmcnaaW.PrintMore
attribute [local go_sem] max2_int min2_int max_two min_two max_three min_three max_four min_four
set_option linter.unusedVariables false
set_option linter.unusedSimpArgs false
mutual
def impl_Apply.j0:Nat→Int→Int→Int→Int→Bool→Int→Int→Int→Int→Int→Int→Option (Int)
 | 0,_,_,_,_,_,_,_,_,_,_,_=>none
 | k + 1,x1,x2,x3,x4,x34,x102000,x102001,x102002,x102003,x102004,x102005=>if x34=true then (some 0) else (if x102000=0 then (some x102002) else (if x102000=2 then ((impl_Flip.f x102001 x2).bind fun Ak=>(some Ak)) else ((impl_within.f x102000 3 12).bind fun Al=>(if Al=true then ((impl_binary.f x102000 x102001 x2 x3).bind fun Ac=>(some Ac)) else (if x102000=13 then ((impl_bit.f (x2 == x3)).bind fun Ad=>(some Ad)) else (if x102000=14 then ((impl_Less.f x1 x2 x3).bind fun Ae=>(some Ae)) else (if x102000=15 then ((impl_LessSigned.f x1 x2 x3).bind fun Af=>(some Af)) else (if x102000=16 then (impl_Apply.j1 k x1 x2 x3 x4 (decide (x102001 < x1)) x102000 x102001 x102002 x102003 x102004 x102005) else (impl_Apply.j1 k x1 x2 x3 x4 false x102000 x102001 x102002 x102003 x102004 x102005)))))))))
def impl_Apply.j1:Nat→Int→Int→Int→Int→Bool→Int→Int→Int→Int→Int→Int→Option (Int)
 | 0,_,_,_,_,_,_,_,_,_,_,_=>none
 | k + 1,x1,x2,x3,x4,x84,x102000,x102001,x102002,x102003,x102004,x102005=>if x84=true then (some x3) else (if x102000=16 then (if 0≤(IntKind.u64.wrap (wrap64 (x102001 - x1))) then (some (wrap64 ((shl .i64 x2 (IntKind.u64.wrap (wrap64 (x102001 - x1)))) + x3))) else (none)) else (if x102000=17 then ((impl_Slice.f x1 x2 x102002 x102001).bind fun Am=>(some Am)) else (if x102000=18 then (impl_Apply.j2 k x3 x4 (x2 == 1) x102000 x102001 x102002 x102003 x102004 x102005) else (impl_Apply.j2 k x3 x4 false x102000 x102001 x102002 x102003 x102004 x102005))))
def impl_Apply.j2:Nat→Int→Int→Bool→Int→Int→Int→Int→Int→Int→Option (Int)
 | 0,_,_,_,_,_,_,_,_,_=>none
 | k + 1,x3,x4,x119,x102000,x102001,x102002,x102003,x102004,x102005=>if x119=true then (some x3) else (if x102000=18 then (some x4) else (some 0))
end
def impl_Apply.f (k:Nat) (A0:Int) (A1:Int) (A3:Int) (A4:Int) (A5:Int) (A6:Int) (a1:Int) (a2:Int) (a3:Int) (a4:Int):Option (Int):=(impl_isWidth.f A1).bind fun An=>(if An=true then ((impl_isWidth.f a1).bind fun Ag=>(if Ag=true then ((impl_isByte.f a2).bind fun Aa=>(if Aa=true then ((impl_isByte.f a3).bind fun A9=>(if A9=true then ((impl_isByte.f a4).bind fun A7=>(impl_Apply.j0 k a1 a2 a3 a4 (!A7) A0 A1 A3 A4 A5 A6)) else (impl_Apply.j0 k a1 a2 a3 a4 true A0 A1 A3 A4 A5 A6))) else (impl_Apply.j0 k a1 a2 a3 a4 true A0 A1 A3 A4 A5 A6))) else (impl_Apply.j0 k a1 a2 a3 a4 true A0 A1 A3 A4 A5 A6))) else (impl_Apply.j0 k a1 a2 a3 a4 true A0 A1 A3 A4 A5 A6))
set_option maxHeartbeats 8000000 in
set_option maxRecDepth 100000 in
theorem impl_Apply.calls (k:Nat) (A0:Int) (A1:Int) (A3:Int) (A4:Int) (A5:Int) (A6:Int) (a1:Int) (a2:Int) (a3:Int) (a4:Int) (r:Int) (w:World) (h:impl_Apply.f k A0 A1 A3 A4 A5 A6 a1 a2 a3 a4=some r) :
  Calls Try.prog 126 #[.agg #[.int .i64 A0,.int .i64 A1,.int .i64 A3,.int .i64 A4,.int .i64 A5,.int .i64 A6],.int .i64 a1,.int .i64 a2,.int .i64 a3,.int .i64 a4] w fun e w'=>e = .returned (.int .i64 r)∧Below w.heap.size w w':=by
 have hu99:=Try.underlying99;have HB:=Aside0.mk (Below.refl w.heap.size w);have H:((impl_isWidth.f A1).bind fun An=>(if An=true then ((impl_isWidth.f a1).bind fun Ag=>(if Ag=true then ((impl_isByte.f a2).bind fun Aa=>(if Aa=true then ((impl_isByte.f a3).bind fun A9=>(if A9=true then ((impl_isByte.f a4).bind fun A7=>(impl_Apply.j0 k a1 a2 a3 a4 (!A7) A0 A1 A3 A4 A5 A6)) else (impl_Apply.j0 k a1 a2 a3 a4 true A0 A1 A3 A4 A5 A6))) else (impl_Apply.j0 k a1 a2 a3 a4 true A0 A1 A3 A4 A5 A6))) else (impl_Apply.j0 k a1 a2 a3 a4 true A0 A1 A3 A4 A5 A6))) else (impl_Apply.j0 k a1 a2 a3 a4 true A0 A1 A3 A4 A5 A6)))=some r:=h;clear h;have HC6:=Aside0.mk H;clear H
 go_enter Try.func126,Try.ntmps126
 go_upto_region 1 with (first|((with_reducible refine gate_dst (N:=5) rfl ?_);refine bx (N:=5) (cs:=#[.int .i64 A0,.int .i64 A1,.int .i64 A3,.int .i64 A4,.int .i64 A5,.int .i64 A6]) (t:=99) ?_;intro Ai hg w7 hbox hb;have A2:=Aside0.mk (hbox);have GW101:=Aside0.mk ((by rw [hg];exact (below_size (tb HB)):w.heap.size≤Ai));have GE101:=Aside0.mk ((by rw [hg];exact (below_size (tb HB)):w.heap.size≤Ai));replace HB:=Aside0.mk (below_step (tb HB) hb);clear hb hbox hg))
 (try simp only [Act.put,List.setIfInBounds_toArray,List.set_cons_zero,List.set_cons_succ])
 go_cut [34] (fun v34 wc=>∃ (kq:Nat) (Aj:Bool),v34 = .bool Aj∧Aside0 (impl_Apply.j0 kq a1 a2 a3 a4 Aj A0 A1 A3 A4 A5 A6=some r)∧Aside0 (kq≤k)∧Aside0 (wc.heap[Ai]? = some (.cells #[.int .i64 A0,.int .i64 A1,.int .i64 A3,.int .i64 A4,.int .i64 A5,.int .i64 A6] 99 (0,0)))∧Aside0 (Below w.heap.size w wc))
 case first =>
  have H:=HC6.out;clear HC6;replace H:=ob H;obtain ⟨An,A80,H⟩:=H;replace H:(if An=true then ((impl_isWidth.f a1).bind fun Ag=>(if Ag=true then ((impl_isByte.f a2).bind fun Aa=>(if Aa=true then ((impl_isByte.f a3).bind fun A9=>(if A9=true then ((impl_isByte.f a4).bind fun A7=>(impl_Apply.j0 k a1 a2 a3 a4 (!A7) A0 A1 A3 A4 A5 A6)) else (impl_Apply.j0 k a1 a2 a3 a4 true A0 A1 A3 A4 A5 A6))) else (impl_Apply.j0 k a1 a2 a3 a4 true A0 A1 A3 A4 A5 A6))) else (impl_Apply.j0 k a1 a2 a3 a4 true A0 A1 A3 A4 A5 A6))) else (impl_Apply.j0 k a1 a2 a3 a4 true A0 A1 A3 A4 A5 A6))=some r:=H;have A8:=Aside0.mk A80;clear A80
  by_cases c9:An=true
  ·subst c9
   have H1:((impl_isWidth.f a1).bind fun Ag=>(if Ag=true then ((impl_isByte.f a2).bind fun Aa=>(if Aa=true then ((impl_isByte.f a3).bind fun A9=>(if A9=true then ((impl_isByte.f a4).bind fun A7=>(impl_Apply.j0 k a1 a2 a3 a4 (!A7) A0 A1 A3 A4 A5 A6)) else (impl_Apply.j0 k a1 a2 a3 a4 true A0 A1 A3 A4 A5 A6))) else (impl_Apply.j0 k a1 a2 a3 a4 true A0 A1 A3 A4 A5 A6))) else (impl_Apply.j0 k a1 a2 a3 a4 true A0 A1 A3 A4 A5 A6)))=some r:=by rw [if_pos rfl] at H;exact H
   clear H;have H:=H1;clear H1;replace H:=ob H;obtain ⟨Ag,A100,H⟩:=H;replace H:(if Ag=true then ((impl_isByte.f a2).bind fun Aa=>(if Aa=true then ((impl_isByte.f a3).bind fun A9=>(if A9=true then ((impl_isByte.f a4).bind fun A7=>(impl_Apply.j0 k a1 a2 a3 a4 (!A7) A0 A1 A3 A4 A5 A6)) else (impl_Apply.j0 k a1 a2 a3 a4 true A0 A1 A3 A4 A5 A6))) else (impl_Apply.j0 k a1 a2 a3 a4 true A0 A1 A3 A4 A5 A6))) else (impl_Apply.j0 k a1 a2 a3 a4 true A0 A1 A3 A4 A5 A6))=some r:=H;have A10:=Aside0.mk A100;clear A100
   by_cases c11:Ag=true
   ·subst c11
    have H1:((impl_isByte.f a2).bind fun Aa=>(if Aa=true then ((impl_isByte.f a3).bind fun A9=>(if A9=true then ((impl_isByte.f a4).bind fun A7=>(impl_Apply.j0 k a1 a2 a3 a4 (!A7) A0 A1 A3 A4 A5 A6)) else (impl_Apply.j0 k a1 a2 a3 a4 true A0 A1 A3 A4 A5 A6))) else (impl_Apply.j0 k a1 a2 a3 a4 true A0 A1 A3 A4 A5 A6)))=some r:=by rw [if_pos rfl] at H;exact H
    clear H;have H:=H1;clear H1;replace H:=ob H;obtain ⟨Aa,A120,H⟩:=H;replace H:(if Aa=true then ((impl_isByte.f a3).bind fun A9=>(if A9=true then ((impl_isByte.f a4).bind fun A7=>(impl_Apply.j0 k a1 a2 a3 a4 (!A7) A0 A1 A3 A4 A5 A6)) else (impl_Apply.j0 k a1 a2 a3 a4 true A0 A1 A3 A4 A5 A6))) else (impl_Apply.j0 k a1 a2 a3 a4 true A0 A1 A3 A4 A5 A6))=some r:=H;have A12:=Aside0.mk A120;clear A120
    by_cases c13:Aa=true
    ·subst c13
     have H1:((impl_isByte.f a3).bind fun A9=>(if A9=true then ((impl_isByte.f a4).bind fun A7=>(impl_Apply.j0 k a1 a2 a3 a4 (!A7) A0 A1 A3 A4 A5 A6)) else (impl_Apply.j0 k a1 a2 a3 a4 true A0 A1 A3 A4 A5 A6)))=some r:=by rw [if_pos rfl] at H;exact H
     clear H;have H:=H1;clear H1;replace H:=ob H;obtain ⟨A9,A140,H⟩:=H;replace H:(if A9=true then ((impl_isByte.f a4).bind fun A7=>(impl_Apply.j0 k a1 a2 a3 a4 (!A7) A0 A1 A3 A4 A5 A6)) else (impl_Apply.j0 k a1 a2 a3 a4 true A0 A1 A3 A4 A5 A6))=some r:=H;have A14:=Aside0.mk A140;clear A140
     by_cases c15:A9=true
     ·subst c15
      have H1:((impl_isByte.f a4).bind fun A7=>(impl_Apply.j0 k a1 a2 a3 a4 (!A7) A0 A1 A3 A4 A5 A6))=some r:=by rw [if_pos rfl] at H;exact H
      clear H;have H:=H1;clear H1;replace H:=ob H;obtain ⟨A7,A160,H⟩:=H;replace H:(impl_Apply.j0 k a1 a2 a3 a4 (!A7) A0 A1 A3 A4 A5 A6)=some r:=H;have A16:=Aside0.mk A160;clear A160;have H':=Aside0.mk H;clear H;have hcz17__:=c6_ A2;have hfz17__:=f_ A2;go_wp2_with (first|((with_reducible refine gate_callee (f:=119) rfl ?_);refine goesL_ (some 13) rfl rfl Try.func119 (by kernel_rfl) rfl #[.int .i64 A1] rfl ml ?_;(with_reducible refine (impl_isWidth.calls A1 true _ A8.out).mono ?_);rintro e w' ⟨rfl,⟨nd,rfl⟩⟩;refine ⟨_,rfl,?_⟩)|(go_at_call 119;(try simp only [i64_w,i32_w]);(with_reducible refine (impl_isWidth.calls a1 true _ A10.out).mono ?_);rintro e w' ⟨rfl,⟨nd,rfl⟩⟩)|(go_at_call 139;(try simp only [i64_w,i32_w]);(with_reducible refine (impl_isByte.calls a2 true _ A12.out).mono ?_);rintro e w' ⟨rfl,⟨nd,rfl⟩⟩)|(go_at_call 139;(try simp only [i64_w,i32_w]);(with_reducible refine (impl_isByte.calls a3 true _ A14.out).mono ?_);rintro e w' ⟨rfl,⟨nd,rfl⟩⟩)|(go_at_call 139;(try simp only [i64_w,i32_w]);(with_reducible refine (impl_isByte.calls a4 A7 _ A16.out).mono ?_);rintro e w' ⟨rfl,⟨nd,rfl⟩⟩));go_meet
      case rel=>exact ⟨_,(!A7),(by first|rfl|(simp;done)|(simp [*];done)),H',⟨by first|omega|exact Nat.le_refl _⟩,⟨dr A2⟩,⟨by exact tb HB⟩⟩
     ·replace c15:=Bool.eq_false_iff.mpr c15;subst c15
      have H1:(impl_Apply.j0 k a1 a2 a3 a4 true A0 A1 A3 A4 A5 A6)=some r:=by rw [if_neg (show ¬ (false=true) by decide)] at H;exact H
      clear H;have H:=H1;clear H1;have H':=Aside0.mk H;clear H;have hcz18__:=c6_ A2;have hfz18__:=f_ A2;go_wp2_with (first|((with_reducible refine gate_callee (f:=119) rfl ?_);refine goesL_ (some 13) rfl rfl Try.func119 (by kernel_rfl) rfl #[.int .i64 A1] rfl ml ?_;(with_reducible refine (impl_isWidth.calls A1 true _ A8.out).mono ?_);rintro e w' ⟨rfl,⟨nd,rfl⟩⟩;refine ⟨_,rfl,?_⟩)|(go_at_call 119;(try simp only [i64_w,i32_w]);(with_reducible refine (impl_isWidth.calls a1 true _ A10.out).mono ?_);rintro e w' ⟨rfl,⟨nd,rfl⟩⟩)|(go_at_call 139;(try simp only [i64_w,i32_w]);(with_reducible refine (impl_isByte.calls a2 true _ A12.out).mono ?_);rintro e w' ⟨rfl,⟨nd,rfl⟩⟩)|(go_at_call 139;(try simp only [i64_w,i32_w]);(with_reducible refine (impl_isByte.calls a3 false _ A14.out).mono ?_);rintro e w' ⟨rfl,⟨nd,rfl⟩⟩));go_meet
      case rel=>exact ⟨_,(true),(by first|rfl|(simp;done)|(simp [*];done)),H',⟨by first|omega|exact Nat.le_refl _⟩,⟨dr A2⟩,⟨by exact tb HB⟩⟩
    ·replace c13:=Bool.eq_false_iff.mpr c13;subst c13
     have H1:(impl_Apply.j0 k a1 a2 a3 a4 true A0 A1 A3 A4 A5 A6)=some r:=by rw [if_neg (show ¬ (false=true) by decide)] at H;exact H
     clear H;have H:=H1;clear H1;have H':=Aside0.mk H;clear H;have hcz19__:=c6_ A2;have hfz19__:=f_ A2;go_wp2_with (first|((with_reducible refine gate_callee (f:=119) rfl ?_);refine goesL_ (some 13) rfl rfl Try.func119 (by kernel_rfl) rfl #[.int .i64 A1] rfl ml ?_;(with_reducible refine (impl_isWidth.calls A1 true _ A8.out).mono ?_);rintro e w' ⟨rfl,⟨nd,rfl⟩⟩;refine ⟨_,rfl,?_⟩)|(go_at_call 119;(try simp only [i64_w,i32_w]);(with_reducible refine (impl_isWidth.calls a1 true _ A10.out).mono ?_);rintro e w' ⟨rfl,⟨nd,rfl⟩⟩)|(go_at_call 139;(try simp only [i64_w,i32_w]);(with_reducible refine (impl_isByte.calls a2 false _ A12.out).mono ?_);rintro e w' ⟨rfl,⟨nd,rfl⟩⟩));go_meet
     case rel=>exact ⟨_,(true),(by first|rfl|(simp;done)|(simp [*];done)),H',⟨by first|omega|exact Nat.le_refl _⟩,⟨dr A2⟩,⟨by exact tb HB⟩⟩
   ·replace c11:=Bool.eq_false_iff.mpr c11;subst c11
    have H1:(impl_Apply.j0 k a1 a2 a3 a4 true A0 A1 A3 A4 A5 A6)=some r:=by rw [if_neg (show ¬ (false=true) by decide)] at H;exact H
    clear H;have H:=H1;clear H1;have H':=Aside0.mk H;clear H;have hcz20__:=c6_ A2;have hfz20__:=f_ A2;go_wp2_with (first|((with_reducible refine gate_callee (f:=119) rfl ?_);refine goesL_ (some 13) rfl rfl Try.func119 (by kernel_rfl) rfl #[.int .i64 A1] rfl ml ?_;(with_reducible refine (impl_isWidth.calls A1 true _ A8.out).mono ?_);rintro e w' ⟨rfl,⟨nd,rfl⟩⟩;refine ⟨_,rfl,?_⟩)|(go_at_call 119;(try simp only [i64_w,i32_w]);(with_reducible refine (impl_isWidth.calls a1 false _ A10.out).mono ?_);rintro e w' ⟨rfl,⟨nd,rfl⟩⟩));go_meet
    case rel=>exact ⟨_,(true),(by first|rfl|(simp;done)|(simp [*];done)),H',⟨by first|omega|exact Nat.le_refl _⟩,⟨dr A2⟩,⟨by exact tb HB⟩⟩
  ·replace c9:=Bool.eq_false_iff.mpr c9;subst c9
   have H1:(impl_Apply.j0 k a1 a2 a3 a4 true A0 A1 A3 A4 A5 A6)=some r:=by rw [if_neg (show ¬ (false=true) by decide)] at H;exact H
   clear H;have H:=H1;clear H1;have H':=Aside0.mk H;clear H;have hcz21__:=c6_ A2;have hfz21__:=f_ A2;go_wp2_with (first|((with_reducible refine gate_callee (f:=119) rfl ?_);refine goesL_ (some 13) rfl rfl Try.func119 (by kernel_rfl) rfl #[.int .i64 A1] rfl ml ?_;(with_reducible refine (impl_isWidth.calls A1 false _ A8.out).mono ?_);rintro e w' ⟨rfl,⟨nd,rfl⟩⟩;refine ⟨_,rfl,?_⟩));go_meet
   case rel=>exact ⟨_,(true),(by first|rfl|(simp;done)|(simp [*];done)),H',⟨by first|omega|exact Nat.le_refl _⟩,⟨dr A2⟩,⟨by exact tb HB⟩⟩
 case rest =>
  clear HC6;(try clear c1);(try clear p2);(try clear c9);(try clear c11);(try clear c12);(try clear c13);(try clear c15);(try clear hcz17__);(try clear hcz18__);(try clear hcz19__);(try clear hcz20__);(try clear hcz21__);(try clear hfz17__);(try clear hfz18__);(try clear hfz19__);(try clear hfz20__);(try clear hfz21__);obtain ⟨kq,Aj,rfl,HA,HJ5,A2,HB⟩:=hcut
  cases kq with
  | zero=>exact absurd HA.out (by simp [impl_Apply.j0])
  | succ kj5 =>
   have H:=HA.out;clear HA;simp only [impl_Apply.j0] at H
   by_cases c22:Aj=true
   ·subst c22
    have H1:(some 0)=some r:=by rw [if_pos rfl] at H;exact H
    clear H;have H:=H1;clear H1;obtain rfl:=os H;go_wp2;go_ret;exact ⟨er,tb HB⟩
   ·replace c22:=Bool.eq_false_iff.mpr c22;subst c22
    have H1:(if A0=0 then (some A3) else (if A0=2 then ((impl_Flip.f A1 a2).bind fun Ak=>(some Ak)) else ((impl_within.f A0 3 12).bind fun Al=>(if Al=true then ((impl_binary.f A0 A1 a2 a3).bind fun Ac=>(some Ac)) else (if A0=13 then ((impl_bit.f (a2 == a3)).bind fun Ad=>(some Ad)) else (if A0=14 then ((impl_Less.f a1 a2 a3).bind fun Ae=>(some Ae)) else (if A0=15 then ((impl_LessSigned.f a1 a2 a3).bind fun Af=>(some Af)) else (if A0=16 then (impl_Apply.j1 kj5 a1 a2 a3 a4 (decide (A1 < a1)) A0 A1 A3 A4 A5 A6) else (impl_Apply.j1 kj5 a1 a2 a3 a4 false A0 A1 A3 A4 A5 A6)))))))))=some r:=by rw [if_neg (show ¬ (false=true) by decide)] at H;exact H
    clear H;have H:=H1;clear H1
    by_cases c23:A0=0
    ·rw [if_pos c23] at H;have c23b0:(A0 == 0)=true:=beq_iff_eq.mpr c23;have c23b1:(A0 != 0)=false:=bne_eq_false_iff_eq.mpr c23;clear c23;obtain rfl:=os H;have hcz24__:=c6_ A2;have hfz24__:=f_ A2;go_wp2;go_ret;exact ⟨er,tb HB⟩
    ·rw [if_neg c23] at H;have c23b0:(A0 == 0)=false:=beq_eq_false_iff_ne.mpr c23;have c23b1:(A0 != 0)=true:=bne_iff_ne.mpr c23
     by_cases c25:A0=2
     ·rw [if_pos c25] at H;have c25b0:(A0 == 2)=true:=beq_iff_eq.mpr c25;have c25b1:(A0 != 2)=false:=bne_eq_false_iff_eq.mpr c25;clear c25;replace H:=ob H;obtain ⟨Ak,A260,H⟩:=H;replace H:(some Ak)=some r:=H;have A26:=Aside0.mk A260;clear A260;obtain rfl:=os H;have hcz27__:=c6_ A2;have hfz27__:=f_ A2;go_wp2_with (first|((with_reducible refine gate_callee (f:=140) rfl ?_);refine goesL_ (some 48) rfl rfl Try.func140 (by kernel_rfl) rfl #[.int .i64 A1,.int .i64 a2] rfl ml ?_;(with_reducible refine (impl_Flip.calls A1 a2 Ak _ A26.out).mono ?_);rintro e w' ⟨rfl,⟨nd,rfl⟩⟩;refine ⟨_,rfl,?_⟩));go_ret;exact ⟨er,tb HB⟩
     ·rw [if_neg c25] at H;have c25b0:(A0 == 2)=false:=beq_eq_false_iff_ne.mpr c25;have c25b1:(A0 != 2)=true:=bne_iff_ne.mpr c25;replace H:=ob H;obtain ⟨Al,A280,H⟩:=H;replace H:(if Al=true then ((impl_binary.f A0 A1 a2 a3).bind fun Ac=>(some Ac)) else (if A0=13 then ((impl_bit.f (a2 == a3)).bind fun Ad=>(some Ad)) else (if A0=14 then ((impl_Less.f a1 a2 a3).bind fun Ae=>(some Ae)) else (if A0=15 then ((impl_LessSigned.f a1 a2 a3).bind fun Af=>(some Af)) else (if A0=16 then (impl_Apply.j1 kj5 a1 a2 a3 a4 (decide (A1 < a1)) A0 A1 A3 A4 A5 A6) else (impl_Apply.j1 kj5 a1 a2 a3 a4 false A0 A1 A3 A4 A5 A6))))))=some r:=H;have A28:=Aside0.mk A280;clear A280
      by_cases c29:Al=true
      ·subst c29
       have H1:((impl_binary.f A0 A1 a2 a3).bind fun Ac=>(some Ac))=some r:=by rw [if_pos rfl] at H;exact H
       clear H;have H:=H1;clear H1;replace H:=ob H;obtain ⟨Ac,A300,H⟩:=H;replace H:(some Ac)=some r:=H;have A30:=Aside0.mk A300;clear A300;obtain rfl:=os H;have hcz31__:=c6_ A2;have hfz31__:=f_ A2;go_wp2_with (first|((with_reducible refine gate_callee (f:=61) rfl ?_);refine goesL_ (some 52) rfl rfl Try.func61 (by kernel_rfl) rfl #[.int .i64 A0,.int .i64 3,.int .i64 12] rfl ml ?_;(with_reducible refine (impl_within.calls A0 3 12 true _ A28.out).mono ?_);rintro e w' ⟨rfl,⟨nd,rfl⟩⟩;refine ⟨_,rfl,?_⟩)|((with_reducible refine gate_callee (f:=141) rfl ?_);refine goesL_ (some 59) rfl rfl Try.func141 (by kernel_rfl) rfl #[.int .i64 A0,.int .i64 A1,.int .i64 a2,.int .i64 a3] rfl ml ?_;(with_reducible refine (impl_binary.calls A0 A1 a2 a3 Ac _ A30.out).mono ?_);rintro e w' ⟨rfl,⟨nd,rfl⟩⟩;refine ⟨_,rfl,?_⟩));go_ret;exact ⟨er,tb HB⟩
      ·replace c29:=Bool.eq_false_iff.mpr c29;subst c29
       have H1:(if A0=13 then ((impl_bit.f (a2 == a3)).bind fun Ad=>(some Ad)) else (if A0=14 then ((impl_Less.f a1 a2 a3).bind fun Ae=>(some Ae)) else (if A0=15 then ((impl_LessSigned.f a1 a2 a3).bind fun Af=>(some Af)) else (if A0=16 then (impl_Apply.j1 kj5 a1 a2 a3 a4 (decide (A1 < a1)) A0 A1 A3 A4 A5 A6) else (impl_Apply.j1 kj5 a1 a2 a3 a4 false A0 A1 A3 A4 A5 A6)))))=some r:=by rw [if_neg (show ¬ (false=true) by decide)] at H;exact H
       clear H;have H:=H1;clear H1
       by_cases c32:A0=13
       ·rw [if_pos c32] at H;have c32b0:(A0 == 13)=true:=beq_iff_eq.mpr c32;have c32b1:(A0 != 13)=false:=bne_eq_false_iff_eq.mpr c32;clear c32;replace H:=ob H;obtain ⟨Ad,A330,H⟩:=H;replace H:(some Ad)=some r:=H;have A33:=Aside0.mk A330;clear A330;obtain rfl:=os H;have hcz34__:=c6_ A2;have hfz34__:=f_ A2;go_wp2_with (first|((with_reducible refine gate_callee (f:=61) rfl ?_);refine goesL_ (some 52) rfl rfl Try.func61 (by kernel_rfl) rfl #[.int .i64 A0,.int .i64 3,.int .i64 12] rfl ml ?_;(with_reducible refine (impl_within.calls A0 3 12 false _ A28.out).mono ?_);rintro e w' ⟨rfl,⟨nd,rfl⟩⟩;refine ⟨_,rfl,?_⟩)|((with_reducible refine gate_callee (f:=111) rfl ?_);refine goesL_ (some 67) rfl rfl Try.func111 (by kernel_rfl) rfl #[.bool (a2 == a3)] rfl ml ?_;(with_reducible refine (impl_bit.calls (a2 == a3) Ad _ A33.out).mono ?_);rintro e w' ⟨rfl,⟨nd,rfl⟩⟩;refine ⟨_,rfl,?_⟩));go_ret;exact ⟨er,tb HB⟩
       ·rw [if_neg c32] at H;have c32b0:(A0 == 13)=false:=beq_eq_false_iff_ne.mpr c32;have c32b1:(A0 != 13)=true:=bne_iff_ne.mpr c32
        by_cases c35:A0=14
        ·rw [if_pos c35] at H;have c35b0:(A0 == 14)=true:=beq_iff_eq.mpr c35;have c35b1:(A0 != 14)=false:=bne_eq_false_iff_eq.mpr c35;clear c35;replace H:=ob H;obtain ⟨Ae,A360,H⟩:=H;replace H:(some Ae)=some r:=H;have A36:=Aside0.mk A360;clear A360;obtain rfl:=os H;have hcz37__:=c6_ A2;have hfz37__:=f_ A2;go_wp2_with (first|((with_reducible refine gate_callee (f:=61) rfl ?_);refine goesL_ (some 52) rfl rfl Try.func61 (by kernel_rfl) rfl #[.int .i64 A0,.int .i64 3,.int .i64 12] rfl ml ?_;(with_reducible refine (impl_within.calls A0 3 12 false _ A28.out).mono ?_);rintro e w' ⟨rfl,⟨nd,rfl⟩⟩;refine ⟨_,rfl,?_⟩)|((with_reducible refine gate_callee (f:=142) rfl ?_);refine goesL_ (some 75) rfl rfl Try.func142 (by kernel_rfl) rfl #[.int .i64 a1,.int .i64 a2,.int .i64 a3] rfl ml ?_;(with_reducible refine (impl_Less.calls a1 a2 a3 Ae _ A36.out).mono ?_);rintro e w' ⟨rfl,⟨nd,rfl⟩⟩;refine ⟨_,rfl,?_⟩));go_ret;exact ⟨er,tb HB⟩
        ·rw [if_neg c35] at H;have c35b0:(A0 == 14)=false:=beq_eq_false_iff_ne.mpr c35;have c35b1:(A0 != 14)=true:=bne_iff_ne.mpr c35
         by_cases c38:A0=15
         ·rw [if_pos c38] at H;have c38b0:(A0 == 15)=true:=beq_iff_eq.mpr c38;have c38b1:(A0 != 15)=false:=bne_eq_false_iff_eq.mpr c38;clear c38;replace H:=ob H;obtain ⟨Af,A390,H⟩:=H;replace H:(some Af)=some r:=H;have A39:=Aside0.mk A390;clear A390;obtain rfl:=os H;have hcz40__:=c6_ A2;have hfz40__:=f_ A2;go_wp2_with (first|((with_reducible refine gate_callee (f:=61) rfl ?_);refine goesL_ (some 52) rfl rfl Try.func61 (by kernel_rfl) rfl #[.int .i64 A0,.int .i64 3,.int .i64 12] rfl ml ?_;(with_reducible refine (impl_within.calls A0 3 12 false _ A28.out).mono ?_);rintro e w' ⟨rfl,⟨nd,rfl⟩⟩;refine ⟨_,rfl,?_⟩)|((with_reducible refine gate_callee (f:=143) rfl ?_);refine goesL_ (some 83) rfl rfl Try.func143 (by kernel_rfl) rfl #[.int .i64 a1,.int .i64 a2,.int .i64 a3] rfl ml ?_;(with_reducible refine (impl_LessSigned.calls a1 a2 a3 Af _ A39.out).mono ?_);rintro e w' ⟨rfl,⟨nd,rfl⟩⟩;refine ⟨_,rfl,?_⟩));go_ret;exact ⟨er,tb HB⟩
         ·rw [if_neg c38] at H;have c38b0:(A0 == 15)=false:=beq_eq_false_iff_ne.mpr c38;have c38b1:(A0 != 15)=true:=bne_iff_ne.mpr c38;have HC41:=Aside0.mk H;clear H;have hcz42__:=c6_ A2;have hfz42__:=f_ A2
          go_upto_region 15 with (first|((with_reducible refine gate_callee (f:=61) rfl ?_);refine goesL_ (some 52) rfl rfl Try.func61 (by kernel_rfl) rfl #[.int .i64 A0,.int .i64 3,.int .i64 12] rfl ml ?_;(with_reducible refine (impl_within.calls A0 3 12 false _ A28.out).mono ?_);rintro e w' ⟨rfl,⟨nd,rfl⟩⟩;refine ⟨_,rfl,?_⟩))
          (try simp only [Act.put,List.setIfInBounds_toArray,List.set_cons_zero,List.set_cons_succ])
          go_cut [84] (fun v84 wc=>∃ (kq:Nat) (Ah:Bool),v84 = .bool Ah∧Aside0 (impl_Apply.j1 kq a1 a2 a3 a4 Ah A0 A1 A3 A4 A5 A6=some r)∧Aside0 (kq≤kj5)∧Aside0 (wc.heap[Ai]? = some (.cells #[.int .i64 A0,.int .i64 A1,.int .i64 A3,.int .i64 A4,.int .i64 A5,.int .i64 A6] 99 (0,0)))∧Aside0 (Below w.heap.size w wc))
          case first =>
           have H:=HC41.out;clear HC41
           by_cases c43:A0=16
           ·rw [if_pos c43] at H;have c43b0:(A0 == 16)=true:=beq_iff_eq.mpr c43;have c43b1:(A0 != 16)=false:=bne_eq_false_iff_eq.mpr c43;clear c43;(first|rw [c43b0]|(simp only [i64_w,i32_w];rw [c43b0])|skip);have H':=Aside0.mk H;clear H;have hcz44__:=c6_ A2;have hfz44__:=f_ A2;go_wp2;go_meet
            case rel=>exact ⟨_,(decide (A1 < a1)),(by first|rfl|(simp;done)|(simp [*];done)),H',⟨by have:=HJ5.out;first|omega|exact Nat.le_refl _⟩,⟨dr A2⟩,⟨by exact tb HB⟩⟩
           ·rw [if_neg c43] at H;have c43b0:(A0 == 16)=false:=beq_eq_false_iff_ne.mpr c43;have c43b1:(A0 != 16)=true:=bne_iff_ne.mpr c43;(first|rw [c43b0]|(simp only [i64_w,i32_w];rw [c43b0])|skip);have H':=Aside0.mk H;clear H;have hcz45__:=c6_ A2;have hfz45__:=f_ A2;go_wp2;go_meet
            case rel=>exact ⟨_,(false),(by first|rfl|(simp;done)|(simp [*];done)),H',⟨by have:=HJ5.out;first|omega|exact Nat.le_refl _⟩,⟨dr A2⟩,⟨by exact tb HB⟩⟩
          case rest =>
           clear HC41;(try clear c1);(try clear c2);(try clear p2);(try clear c3);(try clear c4);(try clear c6);(try clear c9);(try clear c11);(try clear c12);(try clear c13);(try clear c14);(try clear c15);(try clear c22);(try clear c23);(try clear c23b0);(try clear c23b1);(try clear c25);(try clear c25b0);(try clear c25b1);(try clear c29);(try clear c32);(try clear c32b0);(try clear c32b1);(try clear c35);(try clear c35b0);(try clear c35b1);(try clear c38);(try clear c38b0);(try clear c38b1);(try clear c43);(try clear c43b0);(try clear c43b1);(try clear hcz17__);(try clear hcz18__);(try clear hcz19__);(try clear hcz20__);(try clear hcz21__);(try clear hcz24__);(try clear hcz27__);(try clear hcz31__);(try clear hcz34__);(try clear hcz37__);(try clear hcz40__);(try clear hcz42__);(try clear hcz44__);(try clear hcz45__);(try clear hfz17__);(try clear hfz18__);(try clear hfz19__);(try clear hfz20__);(try clear hfz21__);(try clear hfz24__);(try clear hfz27__);(try clear hfz31__);(try clear hfz34__);(try clear hfz37__);(try clear hfz40__);(try clear hfz42__);(try clear hfz44__);(try clear hfz45__);(try clear p2);obtain ⟨kq,Ah,rfl,HA,HJ40,A2,HB⟩:=hcut
           cases kq with
           | zero=>exact absurd HA.out (by simp [impl_Apply.j1])
           | succ kj40 =>
            have H:=HA.out;clear HA;simp only [impl_Apply.j1] at H
            by_cases c46:Ah=true
            ·subst c46
             have H1:(some a3)=some r:=by rw [if_pos rfl] at H;exact H
             clear H;have H:=H1;clear H1;obtain rfl:=os H;go_wp2;go_ret;exact ⟨er,tb HB⟩
            ·replace c46:=Bool.eq_false_iff.mpr c46;subst c46
             have H1:(if A0=16 then (if 0≤(IntKind.u64.wrap (wrap64 (A1 - a1))) then (some (wrap64 ((shl .i64 a2 (IntKind.u64.wrap (wrap64 (A1 - a1)))) + a3))) else (none)) else (if A0=17 then ((impl_Slice.f a1 a2 A3 A1).bind fun Am=>(some Am)) else (if A0=18 then (impl_Apply.j2 kj40 a3 a4 (a2 == 1) A0 A1 A3 A4 A5 A6) else (impl_Apply.j2 kj40 a3 a4 false A0 A1 A3 A4 A5 A6))))=some r:=by rw [if_neg (show ¬ (false=true) by decide)] at H;exact H
             clear H;have H:=H1;clear H1
             by_cases c47:A0=16
             ·rw [if_pos c47] at H;have c47b0:(A0 == 16)=true:=beq_iff_eq.mpr c47;have c47b1:(A0 != 16)=false:=bne_eq_false_iff_eq.mpr c47;clear c47;obtain ⟨ji48,hji48⟩:∃ j_:Int,(IntKind.u64.wrap (wrap64 (A1 - a1)))=j_:=⟨_,rfl⟩
              replace H:(if 0≤(ji48) then (some (wrap64 ((shl .i64 a2 (ji48)) + a3))) else (none))=some r:=by first|(rw [hji48] at H;exact H)|(simp only [hji48] at H ⊢;exact H)
              by_cases c49:0≤(ji48)
              ·rw [if_pos c49] at H;have c49b0:=eq_true c49;have c49b1:decide (0≤(ji48))=true:=decide_eq_true c49;clear c49;obtain ⟨ji50,hji50⟩:∃ j_:Int,(shl .i64 a2 (ji48))=j_:=⟨_,rfl⟩
               replace H:(some (wrap64 ((ji50) + a3)))=some r:=by first|(rw [hji50] at H;exact H)|(simp only [hji50] at H ⊢;exact H)
               have hji50_:(IntKind.i64.wrap (a2 * 2 ^ min (ji48).toNat 64))=ji50:=hji50;have hji50z:(ji48)≤64→(IntKind.i64.wrap (a2 * 2 ^ (ji48).toNat))=ji50:=shl_small hji50;have hji50y:(wrap64 (a2 * 2 ^ min (ji48).toNat 64))=ji50:=(i64_w _).symm.trans hji50_
               have hji50x:(ji48)≤64→(wrap64 (a2 * 2 ^ (ji48).toNat))=ji50:=fun h_=>(i64_w _).symm.trans (hji50z h_)
               obtain rfl:=os H;have hcz51__:=c6_ A2;have hfz51__:=f_ A2;go_wp2;go_ret;exact ⟨by first|rfl|(simp [errW_none,errW_some] <;> rfl)|(simp only [← hji48,← hji50];first|rfl|(simp [errW_none,errW_some] <;> rfl))|(simp [*,errW_none,errW_some] <;> rfl),tb HB⟩
              ·rw [if_neg c49] at H;exact absurd H (by simp)
             ·rw [if_neg c47] at H;have c47b0:(A0 == 16)=false:=beq_eq_false_iff_ne.mpr c47;have c47b1:(A0 != 16)=true:=bne_iff_ne.mpr c47
              by_cases c52:A0=17
              ·rw [if_pos c52] at H;have c52b0:(A0 == 17)=true:=beq_iff_eq.mpr c52;have c52b1:(A0 != 17)=false:=bne_eq_false_iff_eq.mpr c52;clear c52;replace H:=ob H;obtain ⟨Am,A530,H⟩:=H;replace H:(some Am)=some r:=H;have A53:=Aside0.mk A530;clear A530;obtain rfl:=os H;have hcz54__:=c6_ A2;have hfz54__:=f_ A2;go_wp2_with (first|((with_reducible refine gate_callee (f:=144) rfl ?_);refine goesL_ (some 118) rfl rfl Try.func144 (by kernel_rfl) rfl #[.int .i64 a1,.int .i64 a2,.int .i64 A3,.int .i64 A1] rfl ml ?_;(with_reducible refine (impl_Slice.calls a1 a2 A3 A1 Am _ A53.out).mono ?_);rintro e w' ⟨rfl,⟨nd,rfl⟩⟩;refine ⟨_,rfl,?_⟩));go_ret;exact ⟨er,tb HB⟩
              ·rw [if_neg c52] at H;have c52b0:(A0 == 17)=false:=beq_eq_false_iff_ne.mpr c52;have c52b1:(A0 != 17)=true:=bne_iff_ne.mpr c52;have HC55:=Aside0.mk H;clear H;have hcz56__:=c6_ A2;have hfz56__:=f_ A2
               go_upto_region 21 with (fail)
               go_cut [119] (fun v119 wc=>∃ (kq:Nat) (Ab:Bool),v119 = .bool Ab∧Aside0 (impl_Apply.j2 kq a3 a4 Ab A0 A1 A3 A4 A5 A6=some r)∧Aside0 (kq≤kj40)∧Aside0 (wc.heap[Ai]? = some (.cells #[.int .i64 A0,.int .i64 A1,.int .i64 A3,.int .i64 A4,.int .i64 A5,.int .i64 A6] 99 (0,0)))∧Aside0 (Below w.heap.size w wc))
               case first =>
                have H:=HC55.out;clear HC55
                by_cases c57:A0=18
                ·rw [if_pos c57] at H;have c57b0:(A0 == 18)=true:=beq_iff_eq.mpr c57;have c57b1:(A0 != 18)=false:=bne_eq_false_iff_eq.mpr c57;clear c57;(first|rw [c57b0]|(simp only [i64_w,i32_w];rw [c57b0])|skip);have H':=Aside0.mk H;clear H;have hcz58__:=c6_ A2;have hfz58__:=f_ A2;go_wp2;go_meet
                 case rel=>exact ⟨_,((a2 == 1)),(by first|rfl|(simp;done)|(simp [*];done)),(by first|exact H'|(rw [hji50];exact H')),⟨by have:=HJ5.out;have:=HJ40.out;first|omega|exact Nat.le_refl _⟩,⟨dr A2⟩,⟨by exact tb HB⟩⟩
                ·rw [if_neg c57] at H;have c57b0:(A0 == 18)=false:=beq_eq_false_iff_ne.mpr c57;have c57b1:(A0 != 18)=true:=bne_iff_ne.mpr c57;(first|rw [c57b0]|(simp only [i64_w,i32_w];rw [c57b0])|skip);have H':=Aside0.mk H;clear H;have hcz59__:=c6_ A2;have hfz59__:=f_ A2;go_wp2;go_meet
                 case rel=>exact ⟨_,(false),(by first|rfl|(simp;done)|(simp [*];done)),(by first|exact H'|(rw [hji50];exact H')),⟨by have:=HJ5.out;have:=HJ40.out;first|omega|exact Nat.le_refl _⟩,⟨dr A2⟩,⟨by exact tb HB⟩⟩
               case rest =>
                clear HC55;(try clear c1);(try clear c2);(try clear p2);(try clear c3);(try clear c4);(try clear c5);(try clear c6);(try clear p6);(try clear c9);(try clear c11);(try clear c12);(try clear c13);(try clear c14);(try clear c15);(try clear c22);(try clear c23);(try clear c23b0);(try clear c23b1);(try clear c25);(try clear c25b0);(try clear c25b1);(try clear c29);(try clear c32);(try clear c32b0);(try clear c32b1);(try clear c35);(try clear c35b0);(try clear c35b1);(try clear c38);(try clear c38b0);(try clear c38b1);(try clear c43);(try clear c43b0);(try clear c43b1);(try clear c46);(try clear c47);(try clear c47b0);(try clear c47b1);(try clear c49);(try clear c49b0);(try clear c49b1);(try clear c52);(try clear c52b0);(try clear c52b1);(try clear c57);(try clear c57b0);(try clear c57b1);(try clear hcz17__);(try clear hcz18__);(try clear hcz19__);(try clear hcz20__);(try clear hcz21__);(try clear hcz24__);(try clear hcz27__);(try clear hcz31__);(try clear hcz34__);(try clear hcz37__);(try clear hcz40__);(try clear hcz42__);(try clear hcz44__);(try clear hcz45__);(try clear hcz51__);(try clear hcz54__);(try clear hcz56__);(try clear hcz58__);(try clear hcz59__);(try clear hfz17__);(try clear hfz18__);(try clear hfz19__);(try clear hfz20__);(try clear hfz21__);(try clear hfz24__);(try clear hfz27__);(try clear hfz31__);(try clear hfz34__);(try clear hfz37__);(try clear hfz40__);(try clear hfz42__);(try clear hfz44__);(try clear hfz45__);(try clear hfz51__);(try clear hfz54__);(try clear hfz56__);(try clear hfz58__);(try clear hfz59__);(try clear p2);obtain ⟨kq,Ab,rfl,HA,HJ54,A2,HB⟩:=hcut
                cases kq with
                | zero=>exact absurd HA.out (by simp [impl_Apply.j2])
                | succ kj54 =>
                 have H:=HA.out;clear HA;simp only [impl_Apply.j2] at H
                 by_cases c60:Ab=true
                 ·subst c60
                  have H1:(some a3)=some r:=by rw [if_pos rfl] at H;exact H
                  clear H;have H:=H1;clear H1;obtain rfl:=os H;go_wp2;go_ret;exact ⟨er,tb HB⟩
                 ·replace c60:=Bool.eq_false_iff.mpr c60;subst c60
                  have H1:(if A0=18 then (some a4) else (some 0))=some r:=by rw [if_neg (show ¬ (false=true) by decide)] at H;exact H
                  clear H;have H:=H1;clear H1
                  by_cases c61:A0=18
                  ·rw [if_pos c61] at H;have c61b0:(A0 == 18)=true:=beq_iff_eq.mpr c61;have c61b1:(A0 != 18)=false:=bne_eq_false_iff_eq.mpr c61;clear c61;obtain rfl:=os H;have hcz62__:=c6_ A2;have hfz62__:=f_ A2;go_wp2;go_ret;exact ⟨er,tb HB⟩
                  ·rw [if_neg c61] at H;have c61b0:(A0 == 18)=false:=beq_eq_false_iff_ne.mpr c61;have c61b1:(A0 != 18)=true:=bne_iff_ne.mpr c61;obtain rfl:=os H;have hcz63__:=c6_ A2;have hfz63__:=f_ A2;go_wp2;go_ret;exact ⟨er,tb HB⟩
def impl_isQuant.f (A0:Int) (A3:Int) (A4:Int) (A5:Int) (A6:Int) (A7:Int):Option (Bool):=if A0=19 then (some true) else (some (A0 == 20))
set_option maxHeartbeats 8000000 in
set_option maxRecDepth 100000 in
theorem impl_isQuant.calls (A0:Int) (A3:Int) (A4:Int) (A5:Int) (A6:Int) (A7:Int) (r:Bool) (w:World) (h:impl_isQuant.f A0 A3 A4 A5 A6 A7=some r) :
  Calls Try.prog 123 #[.agg #[.int .i64 A0,.int .i64 A3,.int .i64 A4,.int .i64 A5,.int .i64 A6,.int .i64 A7]] w fun e w'=>e = .returned (.bool r)∧Below w.heap.size w w':=by
 have hu99:=Try.underlying99;have HB:=Aside0.mk (Below.refl w.heap.size w);have H:(if A0=19 then (some true) else (some (A0 == 20)))=some r:=h;clear h
 by_cases c2:A0=19
 ·rw [if_pos c2] at H;have c2b0:(A0 == 19)=true:=beq_iff_eq.mpr c2;have c2b1:(A0 != 19)=false:=bne_eq_false_iff_eq.mpr c2;clear c2;obtain rfl:=os H
  go_enter Try.func123,Try.ntmps123
  go_wp2_with (first|((with_reducible refine gate_dst (N:=1) rfl ?_);refine bx (N:=1) (cs:=#[.int .i64 A0,.int .i64 A3,.int .i64 A4,.int .i64 A5,.int .i64 A6,.int .i64 A7]) (t:=99) ?_;intro A1 hg w3 hbox hb;have A2:=Aside0.mk (hbox);have A8:=Aside0.mk ((by rw [hg];exact (below_size (tb HB)):w.heap.size≤A1));have A9:=Aside0.mk ((by rw [hg];exact (below_size (tb HB)):w.heap.size≤A1));replace HB:=Aside0.mk (below_step (tb HB) hb);clear hb hbox hg;have hcz4__:=c6_ A2;have hfz4__:=f_ A2));go_ret;exact ⟨er,tb HB⟩
 ·rw [if_neg c2] at H;have c2b0:(A0 == 19)=false:=beq_eq_false_iff_ne.mpr c2;have c2b1:(A0 != 19)=true:=bne_iff_ne.mpr c2;obtain rfl:=os H
  go_enter Try.func123,Try.ntmps123
  go_wp2_with (first|((with_reducible refine gate_dst (N:=1) rfl ?_);refine bx (N:=1) (cs:=#[.int .i64 A0,.int .i64 A3,.int .i64 A4,.int .i64 A5,.int .i64 A6,.int .i64 A7]) (t:=99) ?_;intro A1 hg w5 hbox hb;have A2:=Aside0.mk (hbox);have A8:=Aside0.mk ((by rw [hg];exact (below_size (tb HB)):w.heap.size≤A1));have A9:=Aside0.mk ((by rw [hg];exact (below_size (tb HB)):w.heap.size≤A1));replace HB:=Aside0.mk (below_step (tb HB) hb);clear hb hbox hg;have hcz6__:=c6_ A2;have hfz6__:=f_ A2));go_ret;exact ⟨er,tb HB⟩
def impl_Parts.j0:Nat→Bool→Int→Int→Int→Int→Int→Int→Option (List Int)
 | 0,_,_,_,_,_,_,_=>none
 | k + 1,x3,x102000,x102001,x102002,x102003,x102004,x102005=>if x3=true then (some (([x102003]:List Int))) else ((impl_within.f x102000 3 16).bind fun Aa=>(if Aa=true then (some (([x102003,x102004]:List Int))) else (if x102000=18 then (some (([x102003,x102004,x102005]:List Int))) else (some (([]:List Int))))))
def impl_Parts.f (k:Nat) (A0:Int) (A5:Int) (A6:Int) (A1:Int) (A3:Int) (A4:Int):Option (List Int):=if A0=2 then (impl_Parts.j0 k true A0 A5 A6 A1 A3 A4) else (if A0=17 then (impl_Parts.j0 k true A0 A5 A6 A1 A3 A4) else ((impl_isQuant.f A0 A5 A6 A1 A3 A4).bind fun A9=>(impl_Parts.j0 k A9 A0 A5 A6 A1 A3 A4)))
set_option maxHeartbeats 8000000 in
set_option maxRecDepth 100000 in
theorem impl_Parts.calls (k:Nat) (A0:Int) (A5:Int) (A6:Int) (A1:Int) (A3:Int) (A4:Int) (r:List Int) (w:World) (h:impl_Parts.f k A0 A5 A6 A1 A3 A4=some r) :
  Calls Try.prog 125 #[.agg #[.int .i64 A0,.int .i64 A5,.int .i64 A6,.int .i64 A1,.int .i64 A3,.int .i64 A4]] w fun e w'=>∃ v0_:Value,e = .returned (v0_)∧Kd.R (Kd.int .i64) 3 w' w.heap.size (fun _=>True) v0_ r∧Below w.heap.size w w':=by
 have hu99:=Try.underlying99;have HB:=Aside0.mk (Below.refl w.heap.size w);have H:(if A0=2 then (impl_Parts.j0 k true A0 A5 A6 A1 A3 A4) else (if A0=17 then (impl_Parts.j0 k true A0 A5 A6 A1 A3 A4) else ((impl_isQuant.f A0 A5 A6 A1 A3 A4).bind fun A9=>(impl_Parts.j0 k A9 A0 A5 A6 A1 A3 A4))))=some r:=h;clear h;have HC2:=Aside0.mk H;clear H
 go_enter Try.func125,Try.ntmps125
 go_upto_region 1 with (first|((with_reducible refine gate_dst (N:=1) rfl ?_);refine bx (N:=1) (cs:=#[.int .i64 A0,.int .i64 A5,.int .i64 A6,.int .i64 A1,.int .i64 A3,.int .i64 A4]) (t:=99) ?_;intro A7 hg w3 hbox hb;have A2:=Aside0.mk (hbox);have GW101:=Aside0.mk ((by rw [hg];exact (below_size (tb HB)):w.heap.size≤A7));have GE101:=Aside0.mk ((by rw [hg];exact (below_size (tb HB)):w.heap.size≤A7));replace HB:=Aside0.mk (below_step (tb HB) hb);clear hb hbox hg))
 (try simp only [Act.put,List.setIfInBounds_toArray,List.set_cons_zero,List.set_cons_succ])
 go_cut [3] (fun v3 wc=>∃ (kq:Nat) (Ab:Bool),v3 = .bool Ab∧Aside0 (impl_Parts.j0 kq Ab A0 A5 A6 A1 A3 A4=some r)∧Aside0 (kq≤k)∧Aside0 (wc.heap[A7]? = some (.cells #[.int .i64 A0,.int .i64 A5,.int .i64 A6,.int .i64 A1,.int .i64 A3,.int .i64 A4] 99 (0,0)))∧Aside0 (Below w.heap.size w wc))
 case first =>
  have H:=HC2.out;clear HC2
  by_cases c4:A0=2
  ·rw [if_pos c4] at H;have c4b0:(A0 == 2)=true:=beq_iff_eq.mpr c4;have c4b1:(A0 != 2)=false:=bne_eq_false_iff_eq.mpr c4;clear c4;(first|rw [c4b0]|(simp only [i64_w,i32_w];rw [c4b0])|skip);have H':=Aside0.mk H;clear H;have hcz5__:=c6_ A2;have hfz5__:=f_ A2;go_wp2;go_meet
   case rel=>exact ⟨_,(true),(by first|rfl|(simp;done)|(simp [*];done)),H',⟨by first|omega|exact Nat.le_refl _⟩,⟨dr A2⟩,⟨by exact tb HB⟩⟩
  ·rw [if_neg c4] at H;have c4b0:(A0 == 2)=false:=beq_eq_false_iff_ne.mpr c4;have c4b1:(A0 != 2)=true:=bne_iff_ne.mpr c4;(first|rw [c4b0]|(simp only [i64_w,i32_w];rw [c4b0])|skip)
   by_cases c6:A0=17
   ·rw [if_pos c6] at H;have c6b0:(A0 == 17)=true:=beq_iff_eq.mpr c6;have c6b1:(A0 != 17)=false:=bne_eq_false_iff_eq.mpr c6;clear c6;have H':=Aside0.mk H;clear H;have hcz7__:=c6_ A2;have hfz7__:=f_ A2;go_wp2;go_meet
    case rel=>exact ⟨_,(true),(by first|rfl|(simp;done)|(simp [*];done)),H',⟨by first|omega|exact Nat.le_refl _⟩,⟨dr A2⟩,⟨by exact tb HB⟩⟩
   ·rw [if_neg c6] at H;have c6b0:(A0 == 17)=false:=beq_eq_false_iff_ne.mpr c6;have c6b1:(A0 != 17)=true:=bne_iff_ne.mpr c6;replace H:=ob H;obtain ⟨A9,A80,H⟩:=H;replace H:(impl_Parts.j0 k A9 A0 A5 A6 A1 A3 A4)=some r:=H;have A8:=Aside0.mk A80;clear A80;have H':=Aside0.mk H;clear H;have hcz9__:=c6_ A2;have hfz9__:=f_ A2;go_wp2_with (first|(go_at_call 123;(try simp only [i64_w,i32_w]);(with_reducible refine (impl_isQuant.calls A0 A5 A6 A1 A3 A4 A9 _ A8.out).mono ?_);rintro e w10 ⟨rfl,hb⟩;replace A2:=Aside0.mk (blk_below (g:=A7) (o := .cells #[.int .i64 A0,.int .i64 A5,.int .i64 A6,.int .i64 A1,.int .i64 A3,.int .i64 A4] 99 (0,0)) (dr A2) hb);replace HB:=Aside0.mk (below_step (tb HB) hb);(try clear hb);(try clear hb2);(try clear hk);(try clear hi)));go_meet
    case rel=>exact ⟨_,(A9),(by first|rfl|(simp;done)|(simp [*];done)),H',⟨by first|omega|exact Nat.le_refl _⟩,⟨dr A2⟩,⟨by exact tb HB⟩⟩
 case rest =>
  clear HC2;(try clear c1);(try clear p2);(try clear c4);(try clear c4b0);(try clear c4b1);(try clear c6);(try clear c6b0);(try clear c6b1);(try clear hcz5__);(try clear hcz7__);(try clear hcz9__);(try clear hfz5__);(try clear hfz7__);(try clear hfz9__);obtain ⟨kq,Ab,rfl,HA,HJ1,A2,HB⟩:=hcut
  cases kq with
  | zero=>exact absurd HA.out (by simp [impl_Parts.j0])
  | succ kj1 =>
   have H:=HA.out;clear HA;simp only [impl_Parts.j0] at H
   by_cases c11:Ab=true
   ·subst c11
    have H1:(some (([A1]:List Int)))=some r:=by rw [if_pos rfl] at H;exact H
    clear H;have H:=H1;clear H1;obtain ⟨y103,hy103⟩:∃ y_:List Int,y_=(([A1]:List Int)):=⟨_,rfl⟩
    replace H:(some y103)=some r:=by first|(rw [hy103];with_reducible exact H)|(have H2_:=(Option.bind_some _ _).symm.trans H;rw [hy103];with_reducible exact H2_)|(have H2_:=(Option.bind_some _ _).symm.trans H;with_reducible exact H2_)|with_reducible exact H|(rw [hy103];exact H)|exact H
    have Ny103:=Aside0.mk hy103;clear hy103;obtain rfl:=os H;have hcz12__:=c6_ A2;have hfz12__:=f_ A2;go_wp2_with (first|((with_reducible refine gate_dst (N:=18) rfl ?_);refine Kd.R_lit (Kd.int .i64) _ 3 ?hg (N:=18) ?hd (xs:=([A1]:List Int)) (inner:=[.int .i64 A1]) (ok:=fun _=>True) (okp:=fun _=>True) ?hr ?hp (fun _ hk=>hk) trivial (Below.refl _ _) (Nat.le_refl _) (by simp) ?_;(case hd=>rfl);(case hg=>rfl);(case hr=>first|(go_simp;done)|(go_simp;rfl));(case hp=>exact (Reps.one (show Kd.M (Kd.int .i64) _ _ _ A1 [.int .i64 A1] from rfl) (Reps.none _ _)));intro v104 w13 ho14 hb hg_ hnew_;clear hg_ hnew_;(first|rw [← Ny103.out] at ho14|(simp only [Int.reduceToNat] at ho14;rw [← Ny103.out] at ho14));have Ac:=Aside0.mk (Kd.R_lower ho14 (below_size (tb HB)));replace A2:=Aside0.mk (blk_below (g:=A7) (o := .cells #[.int .i64 A0,.int .i64 A5,.int .i64 A6,.int .i64 A1,.int .i64 A3,.int .i64 A4] 99 (0,0)) (dr A2) hb);replace HB:=Aside0.mk (below_step (tb HB) hb);clear hb ho14));go_ret;exact ⟨_,er,ra Ac,tb HB⟩
   ·replace c11:=Bool.eq_false_iff.mpr c11;subst c11
    have H1:((impl_within.f A0 3 16).bind fun Aa=>(if Aa=true then (some (([A1,A3]:List Int))) else (if A0=18 then (some (([A1,A3,A4]:List Int))) else (some (([]:List Int))))))=some r:=by rw [if_neg (show ¬ (false=true) by decide)] at H;exact H
    clear H;have H:=H1;clear H1;replace H:=ob H;obtain ⟨Aa,A150,H⟩:=H;replace H:(if Aa=true then (some (([A1,A3]:List Int))) else (if A0=18 then (some (([A1,A3,A4]:List Int))) else (some (([]:List Int)))))=some r:=H;have A15:=Aside0.mk A150;clear A150
    by_cases c16:Aa=true
    ·subst c16
     have H1:(some (([A1,A3]:List Int)))=some r:=by rw [if_pos rfl] at H;exact H
     clear H;have H:=H1;clear H1;obtain ⟨y107,hy107⟩:∃ y_:List Int,y_=(([A1,A3]:List Int)):=⟨_,rfl⟩
     replace H:(some y107)=some r:=by first|(rw [hy107];with_reducible exact H)|(have H2_:=(Option.bind_some _ _).symm.trans H;rw [hy107];with_reducible exact H2_)|(have H2_:=(Option.bind_some _ _).symm.trans H;with_reducible exact H2_)|with_reducible exact H|(rw [hy107];exact H)|exact H
     have Ny107:=Aside0.mk hy107;clear hy107;obtain rfl:=os H;have hcz17__:=c6_ A2;have hfz17__:=f_ A2;go_wp2_with (first|((with_reducible refine gate_callee (f:=61) rfl ?_);refine goesL_ (some 22) rfl rfl Try.func61 (by kernel_rfl) rfl #[.int .i64 A0,.int .i64 3,.int .i64 16] rfl ml ?_;(with_reducible refine (impl_within.calls A0 3 16 true _ A15.out).mono ?_);rintro e w' ⟨rfl,⟨nd,rfl⟩⟩;refine ⟨_,rfl,?_⟩)|((with_reducible refine gate_dst (N:=27) rfl ?_);refine Kd.R_lit (Kd.int .i64) _ 3 ?hg (N:=27) ?hd (xs:=([A1,A3]:List Int)) (inner:=[.int .i64 A1,.int .i64 A3]) (ok:=fun _=>True) (okp:=fun _=>True) ?hr ?hp (fun _ hk=>hk) trivial (Below.refl _ _) (Nat.le_refl _) (by simp) ?_;(case hd=>rfl);(case hg=>rfl);(case hr=>first|(go_simp;done)|(go_simp;rfl));(case hp=>exact (Reps.one (show Kd.M (Kd.int .i64) _ _ _ A1 [.int .i64 A1] from rfl) (Reps.one (show Kd.M (Kd.int .i64) _ _ _ A3 [.int .i64 A3] from rfl) (Reps.none _ _))));intro v108 w18 ho19 hb hg_ hnew_;clear hg_ hnew_;(first|rw [← Ny107.out] at ho19|(simp only [Int.reduceToNat] at ho19;rw [← Ny107.out] at ho19));have Ad:=Aside0.mk (Kd.R_lower ho19 (below_size (tb HB)));replace A2:=Aside0.mk (blk_below (g:=A7) (o := .cells #[.int .i64 A0,.int .i64 A5,.int .i64 A6,.int .i64 A1,.int .i64 A3,.int .i64 A4] 99 (0,0)) (dr A2) hb);replace HB:=Aside0.mk (below_step (tb HB) hb);clear hb ho19));go_ret;exact ⟨_,er,ra Ad,tb HB⟩
    ·replace c16:=Bool.eq_false_iff.mpr c16;subst c16
     have H1:(if A0=18 then (some (([A1,A3,A4]:List Int))) else (some (([]:List Int))))=some r:=by rw [if_neg (show ¬ (false=true) by decide)] at H;exact H
     clear H;have H:=H1;clear H1
     by_cases c20:A0=18
     ·rw [if_pos c20] at H;have c20b0:(A0 == 18)=true:=beq_iff_eq.mpr c20;have c20b1:(A0 != 18)=false:=bne_eq_false_iff_eq.mpr c20;clear c20;obtain ⟨y110,hy110⟩:∃ y_:List Int,y_=(([A1,A3,A4]:List Int)):=⟨_,rfl⟩
      replace H:(some y110)=some r:=by first|(rw [hy110];with_reducible exact H)|(have H2_:=(Option.bind_some _ _).symm.trans H;rw [hy110];with_reducible exact H2_)|(have H2_:=(Option.bind_some _ _).symm.trans H;with_reducible exact H2_)|with_reducible exact H|(rw [hy110];exact H)|exact H
      have Ny110:=Aside0.mk hy110;clear hy110;obtain rfl:=os H;have hcz21__:=c6_ A2;have hfz21__:=f_ A2;go_wp2_with (first|((with_reducible refine gate_callee (f:=61) rfl ?_);refine goesL_ (some 22) rfl rfl Try.func61 (by kernel_rfl) rfl #[.int .i64 A0,.int .i64 3,.int .i64 16] rfl ml ?_;(with_reducible refine (impl_within.calls A0 3 16 false _ A15.out).mono ?_);rintro e w' ⟨rfl,⟨nd,rfl⟩⟩;refine ⟨_,rfl,?_⟩)|((with_reducible refine gate_dst (N:=38) rfl ?_);refine Kd.R_lit (Kd.int .i64) _ 3 ?hg (N:=38) ?hd (xs:=([A1,A3,A4]:List Int)) (inner:=[.int .i64 A1,.int .i64 A3,.int .i64 A4]) (ok:=fun _=>True) (okp:=fun _=>True) ?hr ?hp (fun _ hk=>hk) trivial (Below.refl _ _) (Nat.le_refl _) (by simp) ?_;(case hd=>rfl);(case hg=>rfl);(case hr=>first|(go_simp;done)|(go_simp;rfl));(case hp=>exact (Reps.one (show Kd.M (Kd.int .i64) _ _ _ A1 [.int .i64 A1] from rfl) (Reps.one (show Kd.M (Kd.int .i64) _ _ _ A3 [.int .i64 A3] from rfl) (Reps.one (show Kd.M (Kd.int .i64) _ _ _ A4 [.int .i64 A4] from rfl) (Reps.none _ _)))));intro v111 w22 ho23 hb hg_ hnew_;clear hg_ hnew_;(first|rw [← Ny110.out] at ho23|(simp only [Int.reduceToNat] at ho23;rw [← Ny110.out] at ho23));have Ae:=Aside0.mk (Kd.R_lower ho23 (below_size (tb HB)));replace A2:=Aside0.mk (blk_below (g:=A7) (o := .cells #[.int .i64 A0,.int .i64 A5,.int .i64 A6,.int .i64 A1,.int .i64 A3,.int .i64 A4] 99 (0,0)) (dr A2) hb);replace HB:=Aside0.mk (below_step (tb HB) hb);clear hb ho23));go_ret;exact ⟨_,er,ra Ae,tb HB⟩
     ·rw [if_neg c20] at H;have c20b0:(A0 == 18)=false:=beq_eq_false_iff_ne.mpr c20;have c20b1:(A0 != 18)=true:=bne_iff_ne.mpr c20;obtain ⟨y113,hy113⟩:∃ y_:List Int,y_=(([]:List Int)):=⟨_,rfl⟩
      replace H:(some y113)=some r:=by first|(rw [hy113];with_reducible exact H)|(have H2_:=(Option.bind_some _ _).symm.trans H;rw [hy113];with_reducible exact H2_)|(have H2_:=(Option.bind_some _ _).symm.trans H;with_reducible exact H2_)|with_reducible exact H|(rw [hy113];exact H)|exact H
      have Ny113:=Aside0.mk hy113;clear hy113;obtain rfl:=os H;have hcz24__:=c6_ A2;have hfz24__:=f_ A2;go_wp2_with (first|((with_reducible refine gate_callee (f:=61) rfl ?_);refine goesL_ (some 22) rfl rfl Try.func61 (by kernel_rfl) rfl #[.int .i64 A0,.int .i64 3,.int .i64 16] rfl ml ?_;(with_reducible refine (impl_within.calls A0 3 16 false _ A15.out).mono ?_);rintro e w' ⟨rfl,⟨nd,rfl⟩⟩;refine ⟨_,rfl,?_⟩)|((with_reducible refine gate_dst (N:=39) rfl ?_);refine Kd.R_lit (Kd.int .i64) _ 3 ?hg (N:=39) ?hd (xs:=([]:List Int)) (inner:=[]) (ok:=fun _=>True) (okp:=fun _=>True) ?hr ?hp (fun _ hk=>hk) trivial (Below.refl _ _) (Nat.le_refl _) (by simp) ?_;(case hd=>rfl);(case hg=>rfl);(case hr=>first|(go_simp;done)|(go_simp;rfl));(case hp=>exact (Reps.none _ _));intro v114 w25 ho26 hb hg_ hnew_;clear hg_ hnew_;(first|rw [← Ny113.out] at ho26|(simp only [Int.reduceToNat] at ho26;rw [← Ny113.out] at ho26));have Af:=Aside0.mk (Kd.R_lower ho26 (below_size (tb HB)));replace A2:=Aside0.mk (blk_below (g:=A7) (o := .cells #[.int .i64 A0,.int .i64 A5,.int .i64 A6,.int .i64 A1,.int .i64 A3,.int .i64 A4] 99 (0,0)) (dr A2) hb);replace HB:=Aside0.mk (below_step (tb HB) hb);clear hb ho26));go_ret;exact ⟨_,er,ra Af,tb HB⟩
def impl_isVar.f (a0:Int):Option (Bool):=(impl_within.f a0 0 7).bind fun A0=>(some A0)
set_option maxHeartbeats 8000000 in
set_option maxRecDepth 100000 in
theorem impl_isVar.calls (a0:Int) (r:Bool) (w:World) (h:impl_isVar.f a0=some r) :
  Calls Try.prog 120 #[.int .i64 a0] w fun e w'=>e = .returned (.bool r)∧Drawn0 w w':=by
 have H:((impl_within.f a0 0 7).bind fun A0=>(some A0))=some r:=h;clear h;replace H:=ob H;obtain ⟨A0,A20,H⟩:=H;replace H:(some A0)=some r:=H;have A2:=Aside0.mk A20;clear A20;obtain rfl:=os H
 go_enter Try.func120,Try.ntmps120
 go_wp2_with (first|((with_reducible refine gate_callee (f:=61) rfl ?_);refine goesL_ (some 4) rfl rfl Try.func61 (by kernel_rfl) rfl #[.int .i64 a0,.int .i64 0,.int .i64 7] rfl ml ?_;(with_reducible refine (impl_within.calls a0 0 7 A0 _ A2.out).mono ?_);rintro e w' ⟨rfl,⟨nd,rfl⟩⟩;refine ⟨_,rfl,?_⟩));go_ret;exact ⟨e1,dn⟩
end Go.Proofs.Ythipjoioicmcnaa.G
namespace Go.Proofs.Ythipjoioicmcnaa.G
open Go.RowKit Go.Proofs.YthipjoioicmcnaaW.PrintWords Go.Proofs.YthipjoioicmcnaaW.PrintLast Go.Proofs.YthipjoioicmcnaaW.PrintMore
attribute [local go_sem] max2_int min2_int max_two min_two max_three min_three max_four min_four
set_option linter.unusedVariables false
set_option linter.unusedSimpArgs false
theorem eqA99 (d:Nat) (w:World) (x0 y0:Int) (x1 y1:Int) (x2 y2:Int) (x3 y3:Int) (x4 y4:Int) (x5 y5:Int) :
  (Op.equalIn (d + 2) 99 (.agg #[.int .i64 x0,.int .i64 x1,.int .i64 x2,.int .i64 x3,.int .i64 x4,.int .i64 x5]) (.agg #[.int .i64 y0,.int .i64 y1,.int .i64 y2,.int .i64 y3,.int .i64 y4,.int .i64 y5])).run Try.prog w = .ok (x0 == y0 && (x1 == y1 && (x2 == y2 && (x3 == y3 && (x4 == y4 && (x5 == y5)))))) w:=by
 refine eqA_of Try.underlying99 (by kernel_rfl) ?_
 refine eqf_cons (by rfl) (by go_simp;rfl) (by go_simp;rfl) (by go_simp) ?_
 refine eqf_cons (by rfl) (by go_simp;rfl) (by go_simp;rfl) (by go_simp) ?_
 refine eqf_cons (by rfl) (by go_simp;rfl) (by go_simp;rfl) (by go_simp) ?_
 refine eqf_cons (by rfl) (by go_simp;rfl) (by go_simp;rfl) (by go_simp) ?_
 refine eqf_cons (by rfl) (by go_simp;rfl) (by go_simp;rfl) (by go_simp) ?_
 exact eqf_last (by rfl) (by go_simp;rfl) (by go_simp;rfl) (by go_simp)
end Go.Proofs.Ythipjoioicmcnaa.G
namespace Go.Proofs.Ythipjoioicmcnaa.G
open Go.Proofs.Ythipjoioicmcnaa.Sh
open Go.RowKit Go.Proofs.YthipjoioicmcnaaW.PrintWords Go.Proofs.YthipjoioicmcnaaW.PrintLast Go.Proofs.YthipjoioicmcnaaW.PrintMore
attribute [local go_sem] max2_int min2_int max_two min_two max_three min_three max_four min_four
set_option linter.unusedVariables false
set_option linter.unusedSimpArgs false
attribute [local go_sem high] eqA99
def impl_usesOnly.j0:Nat→Int→Bool→Int→Int→Int→Int→Int→Int→Int→Int→Int→Int→Int→Int→Option (Bool)
 | 0,_,_,_,_,_,_,_,_,_,_,_,_,_,_=>none
 | k + 1,x4,x13,x102000,x102001,x102002,x102003,x102004,x102005,x103000,x103001,x103002,x103003,x103004,x103005=>if x13=true then (some (x102000 == x103000 && (x102001 == x103001 && (x102003 == x103003 && (x102004 == x103004 && (x102005 == x103005)))))) else (if x102000=17 then (some (x102000 == x103000 && (x102001 == x103001 && (x102004 == x103004 && (x102005 == x103005))))) else ((impl_isQuant.f x102000 x102001 x102002 x102003 x102004 x102005).bind fun Af=>(if Af=true then (some (x102000 == x103000 && (x102001 == x103001 && (x102005 == x103005)))) else (if x4 > 0 then (if x4 > 1 then (if x4 > 2 then (some (x102000 == x103000 && (x102001 == x103001 && (x102002 == x103002)))) else (some (x102000 == x103000 && (x102001 == x103001 && (x102002 == x103002 && (x102005 == x103005)))))) else (if x4 > 2 then (some (x102000 == x103000 && (x102001 == x103001 && (x102002 == x103002 && (x102004 == x103004))))) else (some (x102000 == x103000 && (x102001 == x103001 && (x102002 == x103002 && (x102004 == x103004 && (x102005 == x103005)))))))) else (some (x102000 == x103000 && (x102001 == x103001 && (x102002 == x103002 && (x102003 == x103003 && (x102004 == x103004 && (x102005 == x103005)))))))))))
def impl_usesOnly.f (k:Nat) (A1:Int) (A4:Int) (A9:Int) (Ac:Int) (Ab:Int) (Aa:Int):Option (Bool):=(impl_Parts.f k A1 A4 A9 Ac Ab Aa).bind fun A8=>(if A1=0 then (impl_usesOnly.j0 k (A8.length:Int) true A1 A4 A9 Ac Ab Aa A1 A4 0 0 0 0) else (impl_usesOnly.j0 k (A8.length:Int) (A1 == 1) A1 A4 A9 Ac Ab Aa A1 A4 0 0 0 0))
def impl_usesOnly.T6:Bool × List (List Nat × List Nat):=(true,[([],[]),([0],[0]),([],[]),([2],[2]),([0,1],[]),([4,1,0,1],[1,4]),([0,1,2,3,4,5],[]),([6,3,5,0,1,2,3,4,5],[3,6])])
def impl_usesOnly.B6:List Nat:=[0,1,0,4,3,19,63,127]
theorem impl_usesOnly.tab6:rtab .any (opsOf Try.f164 6)=impl_usesOnly.T6:=by kernel_rfl
theorem impl_usesOnly.bits6:waitsOk impl_usesOnly.T6.2 impl_usesOnly.B6=true:=by kernel_rfl
def impl_usesOnly.T8:Bool × List (List Nat × List Nat):=(true,[([],[]),([0],[0]),([],[]),([2],[2]),([],[]),([4],[4]),([0,1],[]),([6,1,0,1],[1,6]),([0,1,2,3,6,7],[]),([8,3,7,0,1,2,3,6,7],[3,8]),([0,1,2,3,4,5,6,7,8,9],[]),([10,5,9,0,1,2,3,4,5,6,7,8,9],[5,10])])
def impl_usesOnly.B8:List Nat:=[0,1,0,4,0,16,3,67,207,463,1023,2047]
theorem impl_usesOnly.tab8:rtab .any (opsOf Try.f164 8)=impl_usesOnly.T8:=by kernel_rfl
theorem impl_usesOnly.bits8:waitsOk impl_usesOnly.T8.2 impl_usesOnly.B8=true:=by kernel_rfl
set_option maxHeartbeats 8000000 in
set_option maxRecDepth 100000 in
theorem impl_usesOnly.calls (k:Nat) (A1:Int) (A4:Int) (A9:Int) (Ac:Int) (Ab:Int) (Aa:Int) (r:Bool) (w:World) (h:impl_usesOnly.f k A1 A4 A9 Ac Ab Aa=some r) :
  Calls Try.prog 164 #[.agg #[.int .i64 A1,.int .i64 A4,.int .i64 A9,.int .i64 Ac,.int .i64 Ab,.int .i64 Aa]] w fun e w'=>e = .returned (.bool r)∧Below w.heap.size w w':=by
 have hu99:=Try.underlying99;have HB:=Aside0.mk (Below.refl w.heap.size w);have H:((impl_Parts.f k A1 A4 A9 Ac Ab Aa).bind fun A8=>(if A1=0 then (impl_usesOnly.j0 k (A8.length:Int) true A1 A4 A9 Ac Ab Aa A1 A4 0 0 0 0) else (impl_usesOnly.j0 k (A8.length:Int) (A1 == 1) A1 A4 A9 Ac Ab Aa A1 A4 0 0 0 0)))=some r:=h;clear h;replace H:=ob H;obtain ⟨A8,A20,H⟩:=H;replace H:(if A1=0 then (impl_usesOnly.j0 k (A8.length:Int) true A1 A4 A9 Ac Ab Aa A1 A4 0 0 0 0) else (impl_usesOnly.j0 k (A8.length:Int) (A1 == 1) A1 A4 A9 Ac Ab Aa A1 A4 0 0 0 0))=some r:=H;have A2:=Aside0.mk A20;clear A20;have HC3:=Aside0.mk H;clear H
 go_enter Try.func164,Try.ntmps164
 go_upto_region 3 with (first|((with_reducible refine gate_dst (N:=1) rfl ?_);refine bx (N:=1) (cs:=#[.int .i64 A1,.int .i64 A4,.int .i64 A9,.int .i64 Ac,.int .i64 Ab,.int .i64 Aa]) (t:=99) ?_;intro Ad hg w4 hbox hb;have A3:=Aside0.mk (hbox);have GW101:=Aside0.mk ((by rw [hg];exact (below_size (tb HB)):w.heap.size≤Ad));have GE101:=Aside0.mk ((by rw [hg];exact (below_size (tb HB)):w.heap.size≤Ad));replace HB:=Aside0.mk (below_step (tb HB) hb);clear hb hbox hg;have hcz5__:=c6_ A3;have hfz5__:=f_ A3)|((with_reducible refine gate_dst (N:=3) rfl ?_);refine bx (N:=3) (cs:=#[.int .i64 0,.int .i64 0,.int .i64 0,.int .i64 0,.int .i64 0,.int .i64 0]) (t:=99) ?_;intro A6 hg w6 hbox hb;have A5:=Aside0.mk (hbox);have GW102:=Aside0.mk ((by rw [hg];exact (below_size (tb HB)):w.heap.size≤A6));have GE102:=Aside0.mk ((by rw [hg];exact (below_size (tb HB)):w.heap.size≤A6));replace HB:=Aside0.mk (below_step (tb HB) hb);have A0:=Aside0.mk ((by rw [hg];exact Nat.ne_of_lt (blk_lt (g:=Ad) (o := .cells #[.int .i64 A1,.int .i64 A4,.int .i64 A9,.int .i64 Ac,.int .i64 Ab,.int .i64 Aa] 99 (0,0)) (dr A3)):Ad≠A6));have A7:=Aside0.mk ((by rw [hg];exact Nat.ne_of_gt (blk_lt (g:=Ad) (o := .cells #[.int .i64 A1,.int .i64 A4,.int .i64 A9,.int .i64 Ac,.int .i64 Ab,.int .i64 Aa] 99 (0,0)) (dr A3)):A6≠Ad));replace A3:=Aside0.mk (blk_below (g:=Ad) (o := .cells #[.int .i64 A1,.int .i64 A4,.int .i64 A9,.int .i64 Ac,.int .i64 Ab,.int .i64 Aa] 99 (0,0)) (dr A3) hb);clear hb hbox hg;have hnb7:=A7.out;have hnc7:=A0.out;have hcz8__:=c6_ A5;have hfz8__:=f_ A5;have hcz9__:=c6_ A3;have hfz9__:=f_ A3)|((with_reducible refine gate_callee (f:=125) rfl ?_);refine goesL_ (some 11) rfl rfl Try.func125 (by kernel_rfl) rfl #[.agg #[.int .i64 A1,.int .i64 A4,.int .i64 A9,.int .i64 Ac,.int .i64 Ab,.int .i64 Aa]] rfl ml ?_;(with_reducible refine (impl_Parts.calls k A1 A4 A9 Ac Ab Aa A8 _ A2.out).mono ?_);rintro e w10 ⟨v104,rfl,ho0,hb⟩;refine ⟨_,rfl,?_⟩;have Ag:=Aside0.mk (Kd.R_lower ho0 (below_size (tb HB)));replace A3:=Aside0.mk (blk_below (g:=Ad) (o := .cells #[.int .i64 A1,.int .i64 A4,.int .i64 A9,.int .i64 Ac,.int .i64 Ab,.int .i64 Aa] 99 (0,0)) (by (with_reducible repeat (first|refine blk_drewN ?_ _|refine blk_drew ?_|refine blk_alloc ?_ _));refine blk_far ?_ A0.out _;(with_reducible repeat (first|refine blk_drewN ?_ _|refine blk_drew ?_|refine blk_alloc ?_ _));refine blk_far ?_ A0.out _;(with_reducible repeat (first|refine blk_drewN ?_ _|refine blk_drew ?_|refine blk_alloc ?_ _));refine blk_far ?_ A0.out _;(with_reducible repeat (first|refine blk_drewN ?_ _|refine blk_drew ?_|refine blk_alloc ?_ _));refine blk_far ?_ A0.out _;(with_reducible repeat (first|refine blk_drewN ?_ _|refine blk_drew ?_|refine blk_alloc ?_ _));refine blk_far ?_ A0.out _;(with_reducible repeat (first|refine blk_drewN ?_ _|refine blk_drew ?_|refine blk_alloc ?_ _));refine blk_far ?_ A0.out _;(with_reducible repeat (first|refine blk_drewN ?_ _|refine blk_drew ?_|refine blk_alloc ?_ _));exact A3.out) hb);replace A5:=Aside0.mk (blk_below (g:=A6) (o := .cells #[.int .i64 A1,.int .i64 A4,.int .i64 0,.int .i64 0,.int .i64 0,.int .i64 0] 99 (0,0)) (by (with_reducible repeat (first|refine blk_drewN ?_ _|refine blk_drew ?_|refine blk_alloc ?_ _));refine blk_put (cs:=#[.int .i64 A1,.int .i64 A4,.int .i64 0,.int .i64 0,.int .i64 0,.int .i64 0]) ?_ 5 _ rfl;(with_reducible repeat (first|refine blk_drewN ?_ _|refine blk_drew ?_|refine blk_alloc ?_ _));refine blk_put (cs:=#[.int .i64 A1,.int .i64 A4,.int .i64 0,.int .i64 0,.int .i64 0,.int .i64 0]) ?_ 4 _ rfl;(with_reducible repeat (first|refine blk_drewN ?_ _|refine blk_drew ?_|refine blk_alloc ?_ _));refine blk_put (cs:=#[.int .i64 A1,.int .i64 A4,.int .i64 0,.int .i64 0,.int .i64 0,.int .i64 0]) ?_ 3 _ rfl;(with_reducible repeat (first|refine blk_drewN ?_ _|refine blk_drew ?_|refine blk_alloc ?_ _));refine blk_put (cs:=#[.int .i64 A1,.int .i64 A4,.int .i64 0,.int .i64 0,.int .i64 0,.int .i64 0]) ?_ 2 _ rfl;(with_reducible repeat (first|refine blk_drewN ?_ _|refine blk_drew ?_|refine blk_alloc ?_ _));refine blk_put (cs:=#[.int .i64 A1,.int .i64 0,.int .i64 0,.int .i64 0,.int .i64 0,.int .i64 0]) ?_ 1 _ rfl;(with_reducible repeat (first|refine blk_drewN ?_ _|refine blk_drew ?_|refine blk_alloc ?_ _));refine blk_put (cs:=#[.int .i64 0,.int .i64 0,.int .i64 0,.int .i64 0,.int .i64 0,.int .i64 0]) ?_ 0 _ rfl;(with_reducible repeat (first|refine blk_drewN ?_ _|refine blk_drew ?_|refine blk_alloc ?_ _));exact A5.out) hb);replace HB:=Aside0.mk (below_step (tb HB) hb);(try clear hb);(try clear hb2);(try clear hk);(try clear hi);(try clear ho0);obtain ⟨Ao11,co11,eo11⟩:=Kd.R_slice Ag.out;subst eo11))
 (try simp only [Act.put,List.setIfInBounds_toArray,List.set_cons_zero,List.set_cons_succ])
 go_cut [13] (fun v13 wc=>∃ (kq:Nat) (Ae:Bool),v13 = .bool Ae∧Aside0 (impl_usesOnly.j0 kq (A8.length:Int) Ae A1 A4 A9 Ac Ab Aa A1 A4 0 0 0 0=some r)∧Aside0 (kq≤k)∧Aside0 (wc.heap[Ad]? = some (.cells #[.int .i64 A1,.int .i64 A4,.int .i64 A9,.int .i64 Ac,.int .i64 Ab,.int .i64 Aa] 99 (0,0)))∧Aside0 (wc.heap[A6]? = some (.cells #[.int .i64 A1,.int .i64 A4,.int .i64 0,.int .i64 0,.int .i64 0,.int .i64 0] 99 (0,0)))∧Aside0 (Below w.heap.size w wc))
 case first =>
  have H:=HC3.out;clear HC3
  by_cases c12:A1=0
  ·rw [if_pos c12] at H;have c12b0:(A1 == 0)=true:=beq_iff_eq.mpr c12;have c12b1:(A1 != 0)=false:=bne_eq_false_iff_eq.mpr c12;clear c12;(first|rw [c12b0]|(simp only [i64_w,i32_w];rw [c12b0])|skip);have H':=Aside0.mk H;clear H;have hnb13:=A0.out;have hnc13:=A7.out;have hcz14__:=c6_ A3;have hfz14__:=f_ A3;go_wp2;go_meet
   case rel=>exact ⟨_,(true),(by first|rfl|(simp;done)|(simp [*];done)),H',⟨by first|omega|exact Nat.le_refl _⟩,⟨dr A3⟩,⟨dr A5⟩,⟨by exact tb HB⟩⟩
  ·rw [if_neg c12] at H;have c12b0:(A1 == 0)=false:=beq_eq_false_iff_ne.mpr c12;have c12b1:(A1 != 0)=true:=bne_iff_ne.mpr c12;(first|rw [c12b0]|(simp only [i64_w,i32_w];rw [c12b0])|skip);have H':=Aside0.mk H;clear H;have hnb15:=A0.out;have hnc15:=A7.out;have hcz16__:=c6_ A3;have hfz16__:=f_ A3;go_wp2;go_meet
   case rel=>exact ⟨_,((A1 == 1)),(by first|rfl|(simp;done)|(simp [*];done)),H',⟨by first|omega|exact Nat.le_refl _⟩,⟨dr A3⟩,⟨dr A5⟩,⟨by exact tb HB⟩⟩
 case rest =>
  clear HC3;(try clear c1);(try clear p2);(try clear c7);(try clear c12);(try clear c12b0);(try clear c12b1);(try clear c13);(try clear c15);(try clear c16);(try clear hcz14__);(try clear hcz16__);(try clear hcz5__);(try clear hcz8__);(try clear hcz9__);(try clear hfz14__);(try clear hfz16__);(try clear hfz5__);(try clear hfz8__);(try clear hfz9__);obtain ⟨kq,Ae,rfl,HA,HJ2,A3,A5,HB⟩:=hcut
  cases kq with
  | zero=>exact absurd HA.out (by simp [impl_usesOnly.j0])
  | succ kj2 =>
   have H:=HA.out;clear HA;simp only [impl_usesOnly.j0] at H
   by_cases c17:Ae=true
   ·subst c17
    have H1:(some (A1 == A1 && (A4 == A4 && (Ac == 0 && (Ab == 0 && (Aa == 0))))))=some r:=by rw [if_pos rfl] at H;exact H
    clear H;have H:=H1;clear H1;obtain rfl:=os H;have hnb18:=A0.out;have hnc18:=A7.out;have hcz19__:=c6_ A3;have hfz19__:=f_ A3;have hcz20__:=c6_ A5;have hfz20__:=f_ A5;go_wp2;go_ret;exact ⟨er,tb HB⟩
   ·replace c17:=Bool.eq_false_iff.mpr c17;subst c17
    have H1:(if A1=17 then (some (A1 == A1 && (A4 == A4 && (Ab == 0 && (Aa == 0))))) else ((impl_isQuant.f A1 A4 A9 Ac Ab Aa).bind fun Af=>(if Af=true then (some (A1 == A1 && (A4 == A4 && (Aa == 0)))) else (if (A8.length:Int) > 0 then (if (A8.length:Int) > 1 then (if (A8.length:Int) > 2 then (some (A1 == A1 && (A4 == A4 && (A9 == 0)))) else (some (A1 == A1 && (A4 == A4 && (A9 == 0 && (Aa == 0)))))) else (if (A8.length:Int) > 2 then (some (A1 == A1 && (A4 == A4 && (A9 == 0 && (Ab == 0))))) else (some (A1 == A1 && (A4 == A4 && (A9 == 0 && (Ab == 0 && (Aa == 0)))))))) else (some (A1 == A1 && (A4 == A4 && (A9 == 0 && (Ac == 0 && (Ab == 0 && (Aa == 0)))))))))))=some r:=by rw [if_neg (show ¬ (false=true) by decide)] at H;exact H
    clear H;have H:=H1;clear H1
    by_cases c21:A1=17
    ·rw [if_pos c21] at H;have c21b0:(A1 == 17)=true:=beq_iff_eq.mpr c21;have c21b1:(A1 != 17)=false:=bne_eq_false_iff_eq.mpr c21;clear c21;obtain rfl:=os H;have hnb22:=A0.out;have hnc22:=A7.out;have hcz23__:=c6_ A3;have hfz23__:=f_ A3
     try go_wp2
     have n0_:=Aside0.mk (blk_drew A3.out);have n1_:=Aside0.mk (blk_drew A5.out);have n2_:=Aside0.mk (below_drew1 HB.out);clear A3;clear A5;clear HB;have A3:=n0_;have A5:=n1_;have HB:=n2_;clear n0_ n1_ n2_;refine start_ (n:=8) (S:=fun w'=>w'.cell? ⟨Ad,0,none⟩=some (.int .i64 A1)∧w'.cell? ⟨Ad,1,none⟩=some (.int .i64 A4)∧w'.cell? ⟨Ad,2,none⟩=some (.int .i64 A9)∧w'.cell? ⟨Ad,3,none⟩=some (.int .i64 Ac)∧w'.cell? ⟨Ad,4,none⟩=some (.int .i64 Ab)∧w'.cell? ⟨Ad,5,none⟩=some (.int .i64 Aa)) (ds:=[]) (tf 0 8) (by kernel_rfl) rfl rfl ⟨(blk_cell A3.out 0).trans rfl,(blk_cell A3.out 1).trans rfl,(blk_cell A3.out 2).trans rfl,(blk_cell A3.out 3).trans rfl,(blk_cell A3.out 4).trans rfl,(blk_cell A3.out 5).trans rfl⟩ (fun hHeld=>?_);refine with_tabW impl_usesOnly.tab6 impl_usesOnly.bits6 (fun HT_ HW_=>?_);generalize wc.drew=w24 at A3 A5 HB hHeld ⊢;refine pure_ (i:=0) (N:=some 29) (v:=?_) (a':=?_) (tf 1 7) rfl rfl (any_of HT_.out (by kernel_rfl)) (fun _ _ _ h=>h) (Or.inl ⟨by rfl,?_⟩) ?_ ?_;rotate_left
     ·intro w';go_simp;with_reducible rfl
     rotate_left
     ·simp only [Act.put,s1,s2,s3,i64_w,i32_w];rfl
     refine pure_ (i:=2) (N:=some 31) (v:=?_) (a':=?_) #[true,false,true,false,false,false,false,false] rfl rfl (any_of HT_.out (by kernel_rfl)) (fun _ _ _ h=>h) (Or.inl ⟨by rfl,?_⟩) ?_ ?_;rotate_left
     ·intro w';go_simp;with_reducible rfl
     rotate_left
     ·simp only [Act.put,s1,s2,s3,i64_w,i32_w];rfl
     refine take_ (i:=1) (N:=some 30) (v:=?_) (a':=?_) (tf 3 5) rfl rfl (take_ofW HT_.out HW_.out (by kernel_rfl)) (fun _ _ _ h=>h) (Or.inl ⟨by rfl,?_⟩) hHeld ?_ ?_;rotate_left
     ·rintro w' ⟨s0,s1,s2,s3,s4,s5⟩;go_simp;with_reducible rfl
     rotate_left
     ·simp only [Act.put,s1,s2,s3,i64_w,i32_w];rfl
     refine pure_ (i:=4) (N:=some 33) (v:=?_) (a':=?_) #[true,true,true,false,true,false,false,false] rfl rfl (any_of HT_.out (by kernel_rfl)) (fun _ _ _ h=>h) (Or.inl ⟨by rfl,?_⟩) ?_ ?_;rotate_left
     ·intro w';go_simp;with_reducible rfl
     rotate_left
     ·simp only [Act.put,s1,s2,s3,i64_w,i32_w];rfl
     refine take_ (i:=3) (N:=some 32) (v:=?_) (a':=?_) (tf 5 3) rfl rfl (take_ofW HT_.out HW_.out (by kernel_rfl)) (fun _ _ _ h=>h) (Or.inl ⟨by rfl,?_⟩) hHeld ?_ ?_;rotate_left
     ·rintro w' ⟨s0,s1,s2,s3,s4,s5⟩;go_simp;with_reducible rfl
     rotate_left
     ·simp only [Act.put,s1,s2,s3,i64_w,i32_w];rfl
     refine one_ (i:=5) (N:=none) (tf 6 2) rfl rfl (one_of HT_.out (by kernel_rfl)) (by decide) (fun K hK=>?_);have hs25:w24.cell? ⟨A6,2,none⟩=some (.int .i64 0):=(blk_cell A5.out 2).trans rfl;have hfs25:=blk_frozen A5.out 2;have hns25_0:=A0.out;have hms25_0:=A7.out;refine skip_ (w1:=?_) (by rfl) rfl ?_ ?_;rotate_left
     ·go_simp;rfl
     refine hK.out _ _ ⟨((cell_far (p:=⟨A6,_,none⟩) A0.out _).trans (hHeld.1)),((cell_far (p:=⟨A6,_,none⟩) A0.out _).trans (hHeld.2.1)),((cell_far (p:=⟨A6,_,none⟩) A0.out _).trans (hHeld.2.2.1)),((cell_far (p:=⟨A6,_,none⟩) A0.out _).trans (hHeld.2.2.2.1)),((cell_far (p:=⟨A6,_,none⟩) A0.out _).trans (hHeld.2.2.2.2.1)),((cell_far (p:=⟨A6,_,none⟩) A0.out _).trans (hHeld.2.2.2.2.2))⟩ (fun hHeld=>?_);clear hK K;refine pure_ (i:=6) (N:=some 34) (v:=?_) (a':=?_) (tf 7 1) rfl rfl (any_of HT_.out (by kernel_rfl)) (fun _ _ _ h=>h) (Or.inl ⟨by rfl,?_⟩) ?_ ?_;rotate_left
     ·intro w';go_simp;with_reducible rfl
     rotate_left
     ·simp only [Act.put,s1,s2,s3,i64_w,i32_w];rfl
     refine one_ (i:=7) (N:=none) (tf 8 0) rfl rfl (one_of HT_.out (by kernel_rfl)) (by decide) (fun K hK=>?_);have hs26:w24.cell? ⟨A6,3,none⟩=some (.int .i64 0):=(blk_cell A5.out 3).trans rfl;have hfs26:=blk_frozen A5.out 3;have hns26_0:=A0.out;have hms26_0:=A7.out;refine skip_ (w1:=?_) (by rfl) rfl ?_ ?_;rotate_left
     ·go_simp;rfl
     refine hK.out _ _ ⟨((cell_far (p:=⟨A6,_,none⟩) A0.out _).trans (hHeld.1)),((cell_far (p:=⟨A6,_,none⟩) A0.out _).trans (hHeld.2.1)),((cell_far (p:=⟨A6,_,none⟩) A0.out _).trans (hHeld.2.2.1)),((cell_far (p:=⟨A6,_,none⟩) A0.out _).trans (hHeld.2.2.2.1)),((cell_far (p:=⟨A6,_,none⟩) A0.out _).trans (hHeld.2.2.2.2.1)),((cell_far (p:=⟨A6,_,none⟩) A0.out _).trans (hHeld.2.2.2.2.2))⟩ (fun hHeld=>?_);clear hK K;refine done_ (done_of HT_.out (by kernel_rfl)) ?_;have hcz27__:=c6_ A3;have hfz27__:=f_ A3;have hcz28__:=c6_ A5;have hfz28__:=f_ A5
     try go_wp2
     go_ret;exact ⟨er,tb HB⟩
    ·rw [if_neg c21] at H;have c21b0:(A1 == 17)=false:=beq_eq_false_iff_ne.mpr c21;have c21b1:(A1 != 17)=true:=bne_iff_ne.mpr c21;replace H:=ob H;obtain ⟨Af,A290,H⟩:=H;replace H:(if Af=true then (some (A1 == A1 && (A4 == A4 && (Aa == 0)))) else (if (A8.length:Int) > 0 then (if (A8.length:Int) > 1 then (if (A8.length:Int) > 2 then (some (A1 == A1 && (A4 == A4 && (A9 == 0)))) else (some (A1 == A1 && (A4 == A4 && (A9 == 0 && (Aa == 0)))))) else (if (A8.length:Int) > 2 then (some (A1 == A1 && (A4 == A4 && (A9 == 0 && (Ab == 0))))) else (some (A1 == A1 && (A4 == A4 && (A9 == 0 && (Ab == 0 && (Aa == 0)))))))) else (some (A1 == A1 && (A4 == A4 && (A9 == 0 && (Ac == 0 && (Ab == 0 && (Aa == 0)))))))))=some r:=H;have A29:=Aside0.mk A290;clear A290
     by_cases c30:Af=true
     ·subst c30
      have H1:(some (A1 == A1 && (A4 == A4 && (Aa == 0))))=some r:=by rw [if_pos rfl] at H;exact H
      clear H;have H:=H1;clear H1;obtain rfl:=os H;have hnb31:=A0.out;have hnc31:=A7.out;have hcz32__:=c6_ A3;have hfz32__:=f_ A3
      try go_wp2_with (first|((with_reducible refine gate_callee (f:=123) rfl ?_);refine goesL_ (some 37) rfl rfl Try.func123 (by kernel_rfl) rfl #[.agg #[.int .i64 A1,.int .i64 A4,.int .i64 A9,.int .i64 Ac,.int .i64 Ab,.int .i64 Aa]] rfl ml ?_;(with_reducible refine (impl_isQuant.calls A1 A4 A9 Ac Ab Aa true _ A29.out).mono ?_);rintro e w33 ⟨rfl,hb⟩;refine ⟨_,rfl,?_⟩;replace A3:=Aside0.mk (blk_below (g:=Ad) (o := .cells #[.int .i64 A1,.int .i64 A4,.int .i64 A9,.int .i64 Ac,.int .i64 Ab,.int .i64 Aa] 99 (0,0)) (dr A3) hb);replace A5:=Aside0.mk (blk_below (g:=A6) (o := .cells #[.int .i64 A1,.int .i64 A4,.int .i64 0,.int .i64 0,.int .i64 0,.int .i64 0] 99 (0,0)) (dr A5) hb);replace HB:=Aside0.mk (below_step (tb HB) hb);(try clear hb);(try clear hb2);(try clear hk);(try clear hi)))
      have n0_:=Aside0.mk (blk_drew A3.out);have n1_:=Aside0.mk (blk_drew A5.out);have n2_:=Aside0.mk (below_drew1 HB.out);clear A3;clear A5;clear HB;have A3:=n0_;have A5:=n1_;have HB:=n2_;clear n0_ n1_ n2_;refine start_ (n:=12) (S:=fun w'=>w'.cell? ⟨Ad,0,none⟩=some (.int .i64 A1)∧w'.cell? ⟨Ad,1,none⟩=some (.int .i64 A4)∧w'.cell? ⟨Ad,2,none⟩=some (.int .i64 A9)∧w'.cell? ⟨Ad,3,none⟩=some (.int .i64 Ac)∧w'.cell? ⟨Ad,4,none⟩=some (.int .i64 Ab)∧w'.cell? ⟨Ad,5,none⟩=some (.int .i64 Aa)) (ds:=[]) (tf 0 12) (by kernel_rfl) rfl rfl ⟨(blk_cell A3.out 0).trans rfl,(blk_cell A3.out 1).trans rfl,(blk_cell A3.out 2).trans rfl,(blk_cell A3.out 3).trans rfl,(blk_cell A3.out 4).trans rfl,(blk_cell A3.out 5).trans rfl⟩ (fun hHeld=>?_);refine with_tabW impl_usesOnly.tab8 impl_usesOnly.bits8 (fun HT_ HW_=>?_);generalize w33.drew=w34 at A3 A5 HB hHeld ⊢;refine pure_ (i:=0) (N:=some 38) (v:=?_) (a':=?_) (tf 1 11) rfl rfl (any_of HT_.out (by kernel_rfl)) (fun _ _ _ h=>h) (Or.inl ⟨by rfl,?_⟩) ?_ ?_;rotate_left
      ·intro w';go_simp;with_reducible rfl
      rotate_left
      ·simp only [Act.put,s1,s2,s3,i64_w,i32_w];rfl
      refine pure_ (i:=2) (N:=some 40) (v:=?_) (a':=?_) #[true,false,true,false,false,false,false,false,false,false,false,false] rfl rfl (any_of HT_.out (by kernel_rfl)) (fun _ _ _ h=>h) (Or.inl ⟨by rfl,?_⟩) ?_ ?_;rotate_left
      ·intro w';go_simp;with_reducible rfl
      rotate_left
      ·simp only [Act.put,s1,s2,s3,i64_w,i32_w];rfl
      refine pure_ (i:=4) (N:=some 42) (v:=?_) (a':=?_) #[true,false,true,false,true,false,false,false,false,false,false,false] rfl rfl (any_of HT_.out (by kernel_rfl)) (fun _ _ _ h=>h) (Or.inl ⟨by rfl,?_⟩) ?_ ?_;rotate_left
      ·intro w';go_simp;with_reducible rfl
      rotate_left
      ·simp only [Act.put,s1,s2,s3,i64_w,i32_w];rfl
      refine take_ (i:=1) (N:=some 39) (v:=?_) (a':=?_) #[true,true,true,false,true,false,false,false,false,false,false,false] rfl rfl (take_ofW HT_.out HW_.out (by kernel_rfl)) (fun _ _ _ h=>h) (Or.inl ⟨by rfl,?_⟩) hHeld ?_ ?_;rotate_left
      ·rintro w' ⟨s0,s1,s2,s3,s4,s5⟩;go_simp;with_reducible rfl
      rotate_left
      ·simp only [Act.put,s1,s2,s3,i64_w,i32_w];rfl
      refine pure_ (i:=6) (N:=some 44) (v:=?_) (a':=?_) #[true,true,true,false,true,false,true,false,false,false,false,false] rfl rfl (any_of HT_.out (by kernel_rfl)) (fun _ _ _ h=>h) (Or.inl ⟨by rfl,?_⟩) ?_ ?_;rotate_left
      ·intro w';go_simp;with_reducible rfl
      rotate_left
      ·simp only [Act.put,s1,s2,s3,i64_w,i32_w];rfl
      refine take_ (i:=3) (N:=some 41) (v:=?_) (a':=?_) #[true,true,true,true,true,false,true,false,false,false,false,false] rfl rfl (take_ofW HT_.out HW_.out (by kernel_rfl)) (fun _ _ _ h=>h) (Or.inl ⟨by rfl,?_⟩) hHeld ?_ ?_;rotate_left
      ·rintro w' ⟨s0,s1,s2,s3,s4,s5⟩;go_simp;with_reducible rfl
      rotate_left
      ·simp only [Act.put,s1,s2,s3,i64_w,i32_w];rfl
      refine take_ (i:=5) (N:=some 43) (v:=?_) (a':=?_) (tf 7 5) rfl rfl (take_ofW HT_.out HW_.out (by kernel_rfl)) (fun _ _ _ h=>h) (Or.inl ⟨by rfl,?_⟩) hHeld ?_ ?_;rotate_left
      ·rintro w' ⟨s0,s1,s2,s3,s4,s5⟩;go_simp;with_reducible rfl
      rotate_left
      ·simp only [Act.put,s1,s2,s3,i64_w,i32_w];rfl
      refine one_ (i:=7) (N:=none) (tf 8 4) rfl rfl (one_of HT_.out (by kernel_rfl)) (by decide) (fun K hK=>?_);have hs35:w34.cell? ⟨A6,2,none⟩=some (.int .i64 0):=(blk_cell A5.out 2).trans rfl;have hfs35:=blk_frozen A5.out 2;have hns35_0:=A0.out;have hms35_0:=A7.out;refine skip_ (w1:=?_) (by rfl) rfl ?_ ?_;rotate_left
      ·go_simp;rfl
      refine hK.out _ _ ⟨((cell_far (p:=⟨A6,_,none⟩) A0.out _).trans (hHeld.1)),((cell_far (p:=⟨A6,_,none⟩) A0.out _).trans (hHeld.2.1)),((cell_far (p:=⟨A6,_,none⟩) A0.out _).trans (hHeld.2.2.1)),((cell_far (p:=⟨A6,_,none⟩) A0.out _).trans (hHeld.2.2.2.1)),((cell_far (p:=⟨A6,_,none⟩) A0.out _).trans (hHeld.2.2.2.2.1)),((cell_far (p:=⟨A6,_,none⟩) A0.out _).trans (hHeld.2.2.2.2.2))⟩ (fun hHeld=>?_);clear hK K;refine pure_ (i:=8) (N:=some 45) (v:=?_) (a':=?_) (tf 9 3) rfl rfl (any_of HT_.out (by kernel_rfl)) (fun _ _ _ h=>h) (Or.inl ⟨by rfl,?_⟩) ?_ ?_;rotate_left
      ·intro w';go_simp;with_reducible rfl
      rotate_left
      ·simp only [Act.put,s1,s2,s3,i64_w,i32_w];rfl
      refine one_ (i:=9) (N:=none) (tf 10 2) rfl rfl (one_of HT_.out (by kernel_rfl)) (by decide) (fun K hK=>?_);have hs36:w34.cell? ⟨A6,3,none⟩=some (.int .i64 0):=(blk_cell A5.out 3).trans rfl;have hfs36:=blk_frozen A5.out 3;have hns36_0:=A0.out;have hms36_0:=A7.out;refine skip_ (w1:=?_) (by rfl) rfl ?_ ?_;rotate_left
      ·go_simp;rfl
      refine hK.out _ _ ⟨((cell_far (p:=⟨A6,_,none⟩) A0.out _).trans (hHeld.1)),((cell_far (p:=⟨A6,_,none⟩) A0.out _).trans (hHeld.2.1)),((cell_far (p:=⟨A6,_,none⟩) A0.out _).trans (hHeld.2.2.1)),((cell_far (p:=⟨A6,_,none⟩) A0.out _).trans (hHeld.2.2.2.1)),((cell_far (p:=⟨A6,_,none⟩) A0.out _).trans (hHeld.2.2.2.2.1)),((cell_far (p:=⟨A6,_,none⟩) A0.out _).trans (hHeld.2.2.2.2.2))⟩ (fun hHeld=>?_);clear hK K;refine pure_ (i:=10) (N:=some 46) (v:=?_) (a':=?_) (tf 11 1) rfl rfl (any_of HT_.out (by kernel_rfl)) (fun _ _ _ h=>h) (Or.inl ⟨by rfl,?_⟩) ?_ ?_;rotate_left
      ·intro w';go_simp;with_reducible rfl
      rotate_left
      ·simp only [Act.put,s1,s2,s3,i64_w,i32_w];rfl
      refine one_ (i:=11) (N:=none) (tf 12 0) rfl rfl (one_of HT_.out (by kernel_rfl)) (by decide) (fun K hK=>?_);have hs37:w34.cell? ⟨A6,4,none⟩=some (.int .i64 0):=(blk_cell A5.out 4).trans rfl;have hfs37:=blk_frozen A5.out 4;have hns37_0:=A0.out;have hms37_0:=A7.out;refine skip_ (w1:=?_) (by rfl) rfl ?_ ?_;rotate_left
      ·go_simp;rfl
      refine hK.out _ _ ⟨((cell_far (p:=⟨A6,_,none⟩) A0.out _).trans (hHeld.1)),((cell_far (p:=⟨A6,_,none⟩) A0.out _).trans (hHeld.2.1)),((cell_far (p:=⟨A6,_,none⟩) A0.out _).trans (hHeld.2.2.1)),((cell_far (p:=⟨A6,_,none⟩) A0.out _).trans (hHeld.2.2.2.1)),((cell_far (p:=⟨A6,_,none⟩) A0.out _).trans (hHeld.2.2.2.2.1)),((cell_far (p:=⟨A6,_,none⟩) A0.out _).trans (hHeld.2.2.2.2.2))⟩ (fun hHeld=>?_);clear hK K;refine done_ (done_of HT_.out (by kernel_rfl)) ?_;have hcz38__:=c6_ A3;have hfz38__:=f_ A3;have hcz39__:=c6_ A5;have hfz39__:=f_ A5
      try go_wp2
      go_ret;exact ⟨er,tb HB⟩
     ·replace c30:=Bool.eq_false_iff.mpr c30;subst c30
      have H1:(if (A8.length:Int) > 0 then (if (A8.length:Int) > 1 then (if (A8.length:Int) > 2 then (some (A1 == A1 && (A4 == A4 && (A9 == 0)))) else (some (A1 == A1 && (A4 == A4 && (A9 == 0 && (Aa == 0)))))) else (if (A8.length:Int) > 2 then (some (A1 == A1 && (A4 == A4 && (A9 == 0 && (Ab == 0))))) else (some (A1 == A1 && (A4 == A4 && (A9 == 0 && (Ab == 0 && (Aa == 0)))))))) else (some (A1 == A1 && (A4 == A4 && (A9 == 0 && (Ac == 0 && (Ab == 0 && (Aa == 0))))))))=some r:=by rw [if_neg (show ¬ (false=true) by decide)] at H;exact H
      clear H;have H:=H1;clear H1
      by_cases c40:(A8.length:Int) > 0
      ·rw [if_pos c40] at H;have c40b0:decide (0 < (A8.length:Int))=true:=decide_eq_true c40;have c40b1:decide (0 < A8.length)=true:=decide_eq_true (by omega);clear c40
       by_cases c41:(A8.length:Int) > 1
       ·rw [if_pos c41] at H;have c41b0:decide (1 < (A8.length:Int))=true:=decide_eq_true c41;have c41b1:decide (1 < A8.length)=true:=decide_eq_true (by omega);clear c41
        by_cases c42:(A8.length:Int) > 2
        ·rw [if_pos c42] at H;have c42b0:decide (2 < (A8.length:Int))=true:=decide_eq_true c42;have c42b1:decide (2 < A8.length)=true:=decide_eq_true (by omega);clear c42;obtain rfl:=os H;have hnb43:=A0.out;have hnc43:=A7.out;have hcz44__:=c6_ A3;have hfz44__:=f_ A3;go_wp2_with (first|((with_reducible refine gate_callee (f:=123) rfl ?_);refine goesL_ (some 37) rfl rfl Try.func123 (by kernel_rfl) rfl #[.agg #[.int .i64 A1,.int .i64 A4,.int .i64 A9,.int .i64 Ac,.int .i64 Ab,.int .i64 Aa]] rfl ml ?_;(with_reducible refine (impl_isQuant.calls A1 A4 A9 Ac Ab Aa false _ A29.out).mono ?_);rintro e w45 ⟨rfl,hb⟩;refine ⟨_,rfl,?_⟩;replace A3:=Aside0.mk (blk_below (g:=Ad) (o := .cells #[.int .i64 A1,.int .i64 A4,.int .i64 A9,.int .i64 Ac,.int .i64 Ab,.int .i64 Aa] 99 (0,0)) (dr A3) hb);replace A5:=Aside0.mk (blk_below (g:=A6) (o := .cells #[.int .i64 A1,.int .i64 A4,.int .i64 0,.int .i64 0,.int .i64 0,.int .i64 0] 99 (0,0)) (dr A5) hb);replace HB:=Aside0.mk (below_step (tb HB) hb);(try clear hb);(try clear hb2);(try clear hk);(try clear hi);have hcz46__:=c6_ A3;have hfz46__:=f_ A3;have hcz47__:=c6_ A5;have hfz47__:=f_ A5));go_ret;exact ⟨by first|exact er|(simp [errW_none,errW_some,show ¬ A8=[] from by intro h_;rw [h_] at c40b0;simp at c40b0];done)|(simp [*,show ¬ A8=[] from by intro h_;rw [h_] at c40b0;simp at c40b0];done)|(simp [errW_none,errW_some,show ¬ A8=[] from by intro h_;rw [h_] at c40b0;simp at c40b0] <;> rfl),tb HB⟩
        ·rw [if_neg c42] at H;have c42b0:decide (2 < (A8.length:Int))=false:=decide_eq_false c42;have c42b1:decide (2 < A8.length)=false:=decide_eq_false (by omega);clear c42;obtain rfl:=os H;have hnb48:=A0.out;have hnc48:=A7.out;have hcz49__:=c6_ A3;have hfz49__:=f_ A3;go_wp2_with (first|((with_reducible refine gate_callee (f:=123) rfl ?_);refine goesL_ (some 37) rfl rfl Try.func123 (by kernel_rfl) rfl #[.agg #[.int .i64 A1,.int .i64 A4,.int .i64 A9,.int .i64 Ac,.int .i64 Ab,.int .i64 Aa]] rfl ml ?_;(with_reducible refine (impl_isQuant.calls A1 A4 A9 Ac Ab Aa false _ A29.out).mono ?_);rintro e w50 ⟨rfl,hb⟩;refine ⟨_,rfl,?_⟩;replace A3:=Aside0.mk (blk_below (g:=Ad) (o := .cells #[.int .i64 A1,.int .i64 A4,.int .i64 A9,.int .i64 Ac,.int .i64 Ab,.int .i64 Aa] 99 (0,0)) (dr A3) hb);replace A5:=Aside0.mk (blk_below (g:=A6) (o := .cells #[.int .i64 A1,.int .i64 A4,.int .i64 0,.int .i64 0,.int .i64 0,.int .i64 0] 99 (0,0)) (dr A5) hb);replace HB:=Aside0.mk (below_step (tb HB) hb);(try clear hb);(try clear hb2);(try clear hk);(try clear hi);have hcz51__:=c6_ A3;have hfz51__:=f_ A3;have hcz52__:=c6_ A5;have hfz52__:=f_ A5));go_ret;exact ⟨by first|exact er|(simp [errW_none,errW_some,show ¬ A8=[] from by intro h_;rw [h_] at c40b0;simp at c40b0];done)|(simp [*,show ¬ A8=[] from by intro h_;rw [h_] at c40b0;simp at c40b0];done)|(simp [errW_none,errW_some,show ¬ A8=[] from by intro h_;rw [h_] at c40b0;simp at c40b0] <;> rfl),tb HB⟩
       ·rw [if_neg c41] at H;have c41b0:decide (1 < (A8.length:Int))=false:=decide_eq_false c41;have c41b1:decide (1 < A8.length)=false:=decide_eq_false (by omega);clear c41
        by_cases c53:(A8.length:Int) > 2
        ·rw [if_pos c53] at H;have c53b0:decide (2 < (A8.length:Int))=true:=decide_eq_true c53;have c53b1:decide (2 < A8.length)=true:=decide_eq_true (by omega);clear c53;obtain rfl:=os H;have hnb54:=A0.out;have hnc54:=A7.out;have hcz55__:=c6_ A3;have hfz55__:=f_ A3;go_wp2_with (first|((with_reducible refine gate_callee (f:=123) rfl ?_);refine goesL_ (some 37) rfl rfl Try.func123 (by kernel_rfl) rfl #[.agg #[.int .i64 A1,.int .i64 A4,.int .i64 A9,.int .i64 Ac,.int .i64 Ab,.int .i64 Aa]] rfl ml ?_;(with_reducible refine (impl_isQuant.calls A1 A4 A9 Ac Ab Aa false _ A29.out).mono ?_);rintro e w56 ⟨rfl,hb⟩;refine ⟨_,rfl,?_⟩;replace A3:=Aside0.mk (blk_below (g:=Ad) (o := .cells #[.int .i64 A1,.int .i64 A4,.int .i64 A9,.int .i64 Ac,.int .i64 Ab,.int .i64 Aa] 99 (0,0)) (dr A3) hb);replace A5:=Aside0.mk (blk_below (g:=A6) (o := .cells #[.int .i64 A1,.int .i64 A4,.int .i64 0,.int .i64 0,.int .i64 0,.int .i64 0] 99 (0,0)) (dr A5) hb);replace HB:=Aside0.mk (below_step (tb HB) hb);(try clear hb);(try clear hb2);(try clear hk);(try clear hi);have hcz57__:=c6_ A3;have hfz57__:=f_ A3;have hcz58__:=c6_ A5;have hfz58__:=f_ A5));go_ret;exact ⟨by first|exact er|(simp [errW_none,errW_some,show ¬ A8=[] from by intro h_;rw [h_] at c40b0;simp at c40b0];done)|(simp [*,show ¬ A8=[] from by intro h_;rw [h_] at c40b0;simp at c40b0];done)|(simp [errW_none,errW_some,show ¬ A8=[] from by intro h_;rw [h_] at c40b0;simp at c40b0] <;> rfl),tb HB⟩
        ·rw [if_neg c53] at H;have c53b0:decide (2 < (A8.length:Int))=false:=decide_eq_false c53;have c53b1:decide (2 < A8.length)=false:=decide_eq_false (by omega);clear c53;obtain rfl:=os H;have hnb59:=A0.out;have hnc59:=A7.out;have hcz60__:=c6_ A3;have hfz60__:=f_ A3;go_wp2_with (first|((with_reducible refine gate_callee (f:=123) rfl ?_);refine goesL_ (some 37) rfl rfl Try.func123 (by kernel_rfl) rfl #[.agg #[.int .i64 A1,.int .i64 A4,.int .i64 A9,.int .i64 Ac,.int .i64 Ab,.int .i64 Aa]] rfl ml ?_;(with_reducible refine (impl_isQuant.calls A1 A4 A9 Ac Ab Aa false _ A29.out).mono ?_);rintro e w61 ⟨rfl,hb⟩;refine ⟨_,rfl,?_⟩;replace A3:=Aside0.mk (blk_below (g:=Ad) (o := .cells #[.int .i64 A1,.int .i64 A4,.int .i64 A9,.int .i64 Ac,.int .i64 Ab,.int .i64 Aa] 99 (0,0)) (dr A3) hb);replace A5:=Aside0.mk (blk_below (g:=A6) (o := .cells #[.int .i64 A1,.int .i64 A4,.int .i64 0,.int .i64 0,.int .i64 0,.int .i64 0] 99 (0,0)) (dr A5) hb);replace HB:=Aside0.mk (below_step (tb HB) hb);(try clear hb);(try clear hb2);(try clear hk);(try clear hi);have hcz62__:=c6_ A3;have hfz62__:=f_ A3;have hcz63__:=c6_ A5;have hfz63__:=f_ A5));go_ret;exact ⟨by first|exact er|(simp [errW_none,errW_some,show ¬ A8=[] from by intro h_;rw [h_] at c40b0;simp at c40b0];done)|(simp [*,show ¬ A8=[] from by intro h_;rw [h_] at c40b0;simp at c40b0];done)|(simp [errW_none,errW_some,show ¬ A8=[] from by intro h_;rw [h_] at c40b0;simp at c40b0] <;> rfl),tb HB⟩
      ·rw [if_neg c40] at H;have c40b0:decide (0 < (A8.length:Int))=false:=decide_eq_false c40;have c40b1:decide (0 < A8.length)=false:=decide_eq_false (by omega);clear c40;obtain rfl:=os H;have hnb64:=A0.out;have hnc64:=A7.out;have hcz65__:=c6_ A3;have hfz65__:=f_ A3;go_wp2_with (first|((with_reducible refine gate_callee (f:=123) rfl ?_);refine goesL_ (some 37) rfl rfl Try.func123 (by kernel_rfl) rfl #[.agg #[.int .i64 A1,.int .i64 A4,.int .i64 A9,.int .i64 Ac,.int .i64 Ab,.int .i64 Aa]] rfl ml ?_;(with_reducible refine (impl_isQuant.calls A1 A4 A9 Ac Ab Aa false _ A29.out).mono ?_);rintro e w66 ⟨rfl,hb⟩;refine ⟨_,rfl,?_⟩;replace A3:=Aside0.mk (blk_below (g:=Ad) (o := .cells #[.int .i64 A1,.int .i64 A4,.int .i64 A9,.int .i64 Ac,.int .i64 Ab,.int .i64 Aa] 99 (0,0)) (dr A3) hb);replace A5:=Aside0.mk (blk_below (g:=A6) (o := .cells #[.int .i64 A1,.int .i64 A4,.int .i64 0,.int .i64 0,.int .i64 0,.int .i64 0] 99 (0,0)) (dr A5) hb);replace HB:=Aside0.mk (below_step (tb HB) hb);(try clear hb);(try clear hb2);(try clear hk);(try clear hi);have hcz67__:=c6_ A3;have hfz67__:=f_ A3;have hcz68__:=c6_ A5;have hfz68__:=f_ A5));go_ret;exact ⟨by first|exact er|(simp [errW_none,errW_some,show A8=[] from by simpa using c40b0];done)|(simp [*,show A8=[] from by simpa using c40b0];done)|(simp [errW_none,errW_some,show A8=[] from by simpa using c40b0] <;> rfl),tb HB⟩
def rgW:Nat→List S99→List Int→Int→Int→Int→Int→Option (Option (Int × Int × Int))
 | 0,_,_,_,_,_,_=>none
 | k + 1,ahead,ps,i,x0,x1,x2=>if i < (ps.length:Int) then (if 0≤i then (impl_within.f (rd ps i) 0 (wrap64 ((ahead.length:Int) - 1))).bind fun t=>if t=true then
   (if 0≤rd ps i∧rd ps i < (ahead.length:Int) then (if i=0 then rgW k ahead ps (wrap64 (i + 1)) (rd_T99 ahead (rd ps i)).f1 x1 x2 else if i=1 then rgW k ahead ps (wrap64 (i + 1)) x0 (rd_T99 ahead (rd ps i)).f1 x2 else if i=2 then rgW k ahead ps (wrap64 (i + 1)) x0 x1 (rd_T99 ahead (rd ps i)).f1 else none) else none)
   else some none else none) else some (some (x0,x1,x2))
def rgS (o w k b x0 x1 x2:Int):Option Bool :=
 if o=0 then impl_WordOk.f w k else if o=1 then impl_isVar.f k else if o=2 then some (x0 == w) else
 (impl_within.f o 3 12).bind fun t=>if t=true then some (if x0=w then x1 == w else false) else
 (impl_within.f o 13 15).bind fun t=>if t=true then some (if x0=x1 then w == 1 else false) else
 if o=16 then some (wrap64 (x0 + x1) == w) else if o=17 then impl_within.f k 0 (wrap64 (x0 - w)) else
 if o=18 then some (if x0=1 then (if x1=w then x2 == w else false) else false) else
 (impl_isVar.f k).bind fun t=>if t=true then (impl_isWidth.f b).bind fun t=>if t=true then some (if x0=1 then w == 1 else false) else some false else some false
def impl_isRight.f (k:Nat) (l0:List S99) (a1_0 a1_1 a1_2 a1_3 a1_4 a1_5:Int):Option Bool :=
 (impl_isWidth.f a1_1).bind fun t=>if t=true then (impl_within.f a1_0 0 20).bind fun t=>if t=true then (impl_usesOnly.f k a1_0 a1_1 a1_2 a1_3 a1_4 a1_5).bind fun t=>if t=true then
  (impl_Parts.f k a1_0 a1_1 a1_2 a1_3 a1_4 a1_5).bind fun ps=>(rgW k l0 ps 0 0 0 0).bind fun ws=>match ws with
   | none=>some false
   | some (x0,x1,x2)=>rgS a1_0 a1_1 a1_2 a1_4 x0 x1 x2
  else some false else some false else some false
set_option maxHeartbeats 8000000 in
set_option maxRecDepth 100000 in
theorem impl_isRight.calls (k:Nat) (A0:Option Addr) (c0:Nat) (l0:List (S99)) (o ww kk a b c:Int) (r:Bool) (w:World) (hr0:Kd.C k99 w A0 l0.length l0) (hc0:l0.length≤c0) (h:impl_isRight.f k l0 o ww kk a b c=some r) :
  Calls Try.prog 136 #[.slice A0 l0.length c0,.agg #[.int .i64 o,.int .i64 ww,.int .i64 kk,.int .i64 a,.int .i64 b,.int .i64 c]] w fun e w'=>e = .returned (.bool r)∧Below w.heap.size w w':=by
 have HR0:=Aside0.mk hr0;have HC0:=Aside0.mk hc0;clear hr0 hc0;unfold impl_isRight.f at h;obtain ⟨t,hw,h⟩:=Option.bind_eq_some_iff.1 h;have HW:=Aside0.mk hw;clear hw
 cases t with
 | false =>
  rw [if_neg (by decide)] at h;obtain rfl:=Option.some.inj h;clear h
  go_enter Try.func136,Try.ntmps136
  go_wp2_with (first|((with_reducible refine gate_dst (N:=3) rfl ?_);refine bx (N:=3) (cs:=#[.int .i64 o,.int .i64 ww,.int .i64 kk,.int .i64 a,.int .i64 b,.int .i64 c]) (t:=99) ?_;intro gn hg w1 hbox hb;have BNa:=Aside0.mk hbox;have HXa:=Aside0.mk hb;have GN:=Aside0.mk (show w.heap.size≤gn by rw [hg];exact Nat.le_refl _);obtain ⟨hcn0,hcn1,hcn2,hcn3,hcn4,hcn5⟩:=c6_ BNa;clear hg hbox hb)|(go_at_call 119;(try simp only [i64_w,i32_w]);(with_reducible refine (impl_isWidth.calls ww false _ HW.out).mono ?_);rintro e w' ⟨rfl,⟨nd,rfl⟩⟩));go_ret;exact ⟨rfl,pw_below_drewN HXa.out _⟩
 | true =>
 rw [if_pos rfl] at h;obtain ⟨t,ho,h⟩:=Option.bind_eq_some_iff.1 h;have HO:=Aside0.mk ho;clear ho
 cases t with
 | false =>
  rw [if_neg (by decide)] at h;obtain rfl:=Option.some.inj h;clear h
  go_enter Try.func136,Try.ntmps136
  go_wp2_with (first|((with_reducible refine gate_dst (N:=3) rfl ?_);refine bx (N:=3) (cs:=#[.int .i64 o,.int .i64 ww,.int .i64 kk,.int .i64 a,.int .i64 b,.int .i64 c]) (t:=99) ?_;intro gn hg w1 hbox hb;have BNa:=Aside0.mk hbox;have HXa:=Aside0.mk hb;have GN:=Aside0.mk (show w.heap.size≤gn by rw [hg];exact Nat.le_refl _);obtain ⟨hcn0,hcn1,hcn2,hcn3,hcn4,hcn5⟩:=c6_ BNa;clear hg hbox hb)|(go_at_call 119;(try simp only [i64_w,i32_w]);(with_reducible refine (impl_isWidth.calls ww true _ HW.out).mono ?_);rintro e w' ⟨rfl,⟨nd,rfl⟩⟩)|(go_at_call 61;(try simp only [i64_w,i32_w]);(with_reducible refine (impl_within.calls o 0 20 false _ HO.out).mono ?_);rintro e w' ⟨rfl,⟨nd,rfl⟩⟩));go_ret;exact ⟨rfl,pw_below_drewN HXa.out _⟩
 | true =>
 rw [if_pos rfl] at h;obtain ⟨t,hu,h⟩:=Option.bind_eq_some_iff.1 h;have HU:=Aside0.mk hu;clear hu
 cases t with
 | false =>
  rw [if_neg (by decide)] at h;obtain rfl:=Option.some.inj h;clear h
  go_enter Try.func136,Try.ntmps136
  go_wp2_with (first|((with_reducible refine gate_dst (N:=3) rfl ?_);refine bx (N:=3) (cs:=#[.int .i64 o,.int .i64 ww,.int .i64 kk,.int .i64 a,.int .i64 b,.int .i64 c]) (t:=99) ?_;intro gn hg w1 hbox hb;have BNa:=Aside0.mk hbox;have HXa:=Aside0.mk hb;have GN:=Aside0.mk (show w.heap.size≤gn by rw [hg];exact Nat.le_refl _);obtain ⟨hcn0,hcn1,hcn2,hcn3,hcn4,hcn5⟩:=c6_ BNa;clear hg hbox hb)|(go_at_call 119;(try simp only [i64_w,i32_w]);(with_reducible refine (impl_isWidth.calls ww true _ HW.out).mono ?_);rintro e w' ⟨rfl,⟨nd,rfl⟩⟩)|(go_at_call 61;(try simp only [i64_w,i32_w]);(with_reducible refine (impl_within.calls o 0 20 true _ HO.out).mono ?_);rintro e w' ⟨rfl,⟨nd,rfl⟩⟩)|((with_reducible refine gate_callee (f:=164) rfl ?_);(try (refine gate_guard (by rfl) ?_;dsimp only));refine goesL_ (some 20) rfl rfl Try.func164 (by kernel_rfl) rfl #[.agg #[.int .i64 o,.int .i64 ww,.int .i64 kk,.int .i64 a,.int .i64 b,.int .i64 c]] rfl ml ?_;(with_reducible refine (impl_usesOnly.calls k o ww kk a b c false _ HU.out).mono ?_);rintro e w2 ⟨rfl,hb⟩;refine ⟨_,rfl,?_⟩;have hb1:=below_step (pw_below_drewN (Below.refl w1.heap.size w1) _) hb;have HXb:=Aside0.mk (below_step HXa.out hb1);have BNb:=Aside0.mk (blk_below BNa.out hb1);clear hb hb1 BNa HXa;clear hcn0 hcn1 hcn2 hcn3 hcn4 hcn5;obtain ⟨hcn0,hcn1,hcn2,hcn3,hcn4,hcn5⟩:=c6_ BNb));go_ret;exact ⟨rfl,HXb.out⟩
 | true =>
 rw [if_pos rfl] at h;obtain ⟨ps,hp,h⟩:=Option.bind_eq_some_iff.1 h;obtain ⟨ws,hl,h⟩:=Option.bind_eq_some_iff.1 h;have HP:=Aside0.mk hp;have HLW:=Aside0.mk hl;have HF:=Aside0.mk h;clear hp hl h
 go_enter Try.func136,Try.ntmps136
 go_wp2_with (first|((with_reducible refine gate_dst (N:=3) rfl ?_);refine bx (N:=3) (cs:=#[.int .i64 o,.int .i64 ww,.int .i64 kk,.int .i64 a,.int .i64 b,.int .i64 c]) (t:=99) ?_;intro gn hg w1 hbox hb;have BNa:=Aside0.mk hbox;have HXa:=Aside0.mk hb;have GN:=Aside0.mk (show w.heap.size≤gn by rw [hg];exact Nat.le_refl _);obtain ⟨hcn0,hcn1,hcn2,hcn3,hcn4,hcn5⟩:=c6_ BNa;clear hg hbox hb)|(go_at_call 119;(try simp only [i64_w,i32_w]);(with_reducible refine (impl_isWidth.calls ww true _ HW.out).mono ?_);rintro e w' ⟨rfl,⟨nd,rfl⟩⟩)|(go_at_call 61;(try simp only [i64_w,i32_w]);(with_reducible refine (impl_within.calls o 0 20 true _ HO.out).mono ?_);rintro e w' ⟨rfl,⟨nd,rfl⟩⟩)|((with_reducible refine gate_callee (f:=164) rfl ?_);(try (refine gate_guard (by rfl) ?_;dsimp only));refine goesL_ (some 20) rfl rfl Try.func164 (by kernel_rfl) rfl #[.agg #[.int .i64 o,.int .i64 ww,.int .i64 kk,.int .i64 a,.int .i64 b,.int .i64 c]] rfl ml ?_;(with_reducible refine (impl_usesOnly.calls k o ww kk a b c true _ HU.out).mono ?_);rintro e w2 ⟨rfl,hb⟩;refine ⟨_,rfl,?_⟩;have hb1:=below_step (pw_below_drewN (Below.refl w1.heap.size w1) _) hb;have HXb:=Aside0.mk (below_step HXa.out hb1);have BNb:=Aside0.mk (blk_below BNa.out hb1);clear hb hb1 BNa HXa;clear hcn0 hcn1 hcn2 hcn3 hcn4 hcn5;obtain ⟨hcn0,hcn1,hcn2,hcn3,hcn4,hcn5⟩:=c6_ BNb)|((with_reducible refine gate_dst (N:=5) rfl ?_);refine bx (N:=5) (cs:=#[.int .i64 0,.int .i64 0,.int .i64 0]) (t:=132) ?_;intro ga hg w2b hbox hb;have BAa:=Aside0.mk hbox;have BNc:=Aside0.mk (blk_below BNb.out hb);have HXc:=Aside0.mk (below_step HXb.out hb);have GA:=Aside0.mk (show w.heap.size≤ga by rw [hg];exact HXb.out.size);have NE:=Aside0.mk (show gn≠ga by rw [hg];exact Nat.ne_of_lt (blk_lt BNb.out));clear BNb HXb;clear hcn0 hcn1 hcn2 hcn3 hcn4 hcn5;have hn1_:=NE.out;have hn2_:ga≠gn:=fun e_=>NE.out e_.symm;obtain ⟨hcn0,hcn1,hcn2,hcn3,hcn4,hcn5⟩:=c6_ BNc;obtain ⟨hcw0,hcw1,hcw2⟩:=c3_ BAa;have hfw0:=blk_frozen BAa.out 0;have hfw1:=blk_frozen BAa.out 1;have hfw2:=blk_frozen BAa.out 2;clear hg hbox hb)|((with_reducible refine gate_callee (f:=125) rfl ?_);(try (refine gate_guard (by rfl) ?_;dsimp only));refine goesL_ (some 25) rfl rfl Try.func125 (by kernel_rfl) rfl #[.agg #[.int .i64 o,.int .i64 ww,.int .i64 kk,.int .i64 a,.int .i64 b,.int .i64 c]] rfl ml ?_;(with_reducible refine (impl_Parts.calls k o ww kk a b c ps _ HP.out).mono ?_);rintro e w3 ⟨v_,rfl,ho,hb⟩;refine ⟨_,rfl,?_⟩;have BA5:(((w2b.setCell ⟨ga,0,none⟩ (.int .i64 0)).setCell ⟨ga,1,none⟩ (.int .i64 0)).setCell ⟨ga,2,none⟩ (.int .i64 0)).heap[ga]? = some (.cells #[.int .i64 0,.int .i64 0,.int .i64 0] 132 (0,0)):=blk_put (cs:=#[.int .i64 0,.int .i64 0,.int .i64 0]) (blk_put (cs:=#[.int .i64 0,.int .i64 0,.int .i64 0]) (blk_put (cs:=#[.int .i64 0,.int .i64 0,.int .i64 0]) BAa.out 0 _ rfl) 1 _ rfl) 2 _ rfl;have BN5:=blk_far (blk_far (blk_far BNc.out (p:=⟨ga,0,none⟩) NE.out (.int .i64 0)) (p:=⟨ga,1,none⟩) NE.out (.int .i64 0)) (p:=⟨ga,2,none⟩) NE.out (.int .i64 0);have HX5:Below w.heap.size w (((w2b.setCell ⟨ga,0,none⟩ (.int .i64 0)).setCell ⟨ga,1,none⟩ (.int .i64 0)).setCell ⟨ga,2,none⟩ (.int .i64 0)):=below_set (below_set (below_set HXc.out GA.out) GA.out) GA.out;have BA:=Aside0.mk (blk_below BA5 hb);have BNd:=Aside0.mk (blk_below BN5 hb);have HXd:=Aside0.mk (below_step HX5 hb);have HR:=Aside0.mk (Kd.R_lower ho HX5.size);clear ho hb BNc HXc BAa BA5 BN5 HX5 hn1_ hn2_;clear hcn0 hcn1 hcn2 hcn3 hcn4 hcn5;clear hcw0 hcw1 hcw2 hfw0 hfw1 hfw2;obtain ⟨Ap,cp,ep⟩:=Kd.R_slice HR.out;subst ep));have HRP:=Aside0.mk (Kd.R_reads' HR.out)
 go_loopg [27] k (fun kq v27 wr=>∃ (i x0 x1 x2:Int),v27 = .int .i64 i∧Aside0 (rgW kq l0 ps i x0 x1 x2=some ws)∧Aside0 (kq≤k)∧Aside0 (wr.heap[gn]? = some (.cells #[.int .i64 o,.int .i64 ww,.int .i64 kk,.int .i64 a,.int .i64 b,.int .i64 c] 99 (0,0)))∧Aside0 (wr.heap[ga]? = some (.cells #[.int .i64 x0,.int .i64 x1,.int .i64 x2] 132 (0,0)))∧Aside0 (Kd.R (Kd.int .i64) 3 wr w.heap.size (fun _=>True) (.slice Ap ps.length cp) ps)∧Aside0 (Below w.heap.size w wr))
 case atStart=>exact ⟨0,0,0,0,rfl,HLW,⟨Nat.le_refl _⟩,BNd,BA,HR,HXd⟩
 case round =>
  clear HLW BNd BA HR HXd;obtain ⟨i,x0,x1,x2,rfl,HA,HK1,BN,BA,HR,HB⟩:=hrel
  cases gk with
  | zero=>exact absurd HA.out (by simp [rgW])
  | succ k1 =>
   have H:=HA.out;clear HA;simp only [rgW] at H
   by_cases c3:i < (ps.length:Int)
   ·rw [if_pos c3] at H
    by_cases c4:0≤i
    case neg=>rw [if_neg c4] at H;cases H
    rw [if_pos c4] at H;obtain ⟨t,ht,H⟩:=Option.bind_eq_some_iff.1 H;have HT:=Aside0.mk ht;clear ht;have d3:decide (i < (ps.length:Int))=true:=decide_eq_true c3;have C3:=Aside0.mk c3;have d4:decide (0≤i)=true:=decide_eq_true c4;obtain ⟨ad,e_,hxp⟩:=Kd.at_int (Kd.R_reads' HR.out).2.2 i c4 c3;cases e_
    cases t with
    | false =>
     rw [if_neg (by decide)] at H;obtain rfl:=os H;obtain rfl:false=r:=Option.some.inj HF.out;clear H;replace c3:=eq_true c3;replace c4:=eq_true c4;go_wp2_with (first|(go_at_call 61;(try simp only [i64_w,i32_w]);(with_reducible refine (impl_within.calls (rd ps i) 0 (wrap64 ((l0.length:Int) - 1)) false _ HT.out).mono ?_);rintro e w' ⟨rfl,⟨nd,rfl⟩⟩));go_ret;exact ⟨rfl,by repeat (first|exact HB.out|apply pw_below_drewN)⟩
    | true =>
     rw [if_pos rfl] at H
     by_cases c5:0≤rd ps i∧rd ps i < (l0.length:Int)
     case neg=>rw [if_neg c5] at H;cases H
     rw [if_pos c5] at H;obtain ⟨ad2,e_,hx0,hx1,_⟩:=at_T99 HR0.out (rd ps i) c5.1 c5.2;cases e_;replace hx1:=ct HB hx1;clear hx0;replace c3:=eq_true c3;replace c4:=eq_true c4;obtain ⟨c5,c6⟩:=c5;replace c5:=eq_true c5;replace c6:=eq_true c6;have NE1:=NE.out
     have NE2:ga≠gn:=fun e=>NE.out e.symm
     obtain ⟨hcw0,hcw1,hcw2⟩:=c3_ BA;have hfw0:=blk_frozen BA.out 0;have hfw1:=blk_frozen BA.out 1;have hfw2:=blk_frozen BA.out 2
     by_cases z0:i=0
     ·subst z0;rw [if_pos rfl] at H;rw [show wrap64 ((0:Int) + 1)=1 from by unfold wrap64;omega] at H;have d3n:decide (0 < ps.length)=true:=decide_eq_true (by have:=C3.out;omega);have q3n:(0 < ps.length)=True:=eq_true (by have:=C3.out;omega);have H':=Aside0.mk H;rw [show ((0:Int)).toNat=0 from rfl,Addr.add_zero'] at hxp;clear H;go_wp2_with (first|(go_at_call 61;(try simp only [i64_w,i32_w]);(with_reducible refine (impl_within.calls (rd ps 0) 0 (wrap64 ((l0.length:Int) - 1)) true _ HT.out).mono ?_);rintro e w' ⟨rfl,⟨nd,rfl⟩⟩));go_roundg k1
      case measure=>have:=HK1.out;omega
      case rel=>exact ⟨1,(rd_T99 l0 (rd ps 0)).f1,x1,x2,(by first|rfl|(simp;done)),H',⟨by have:=HK1.out;omega⟩,⟨blk_far (blk_drewN BN.out _) NE1 _⟩,⟨blk_put (cs:=#[.int .i64 x0,.int .i64 x1,.int .i64 x2]) (blk_drewN BA.out _) 0 _ rfl⟩,⟨Kd.R_set (Kd.R_drewN HR.out _) (blk_drewN BA.out _) (by decide) 0 _⟩,⟨below_set (pw_below_drewN HB.out _) GA.out⟩⟩
     rw [if_neg z0] at H
     by_cases z1:i=1
     ·subst z1;rw [if_pos rfl] at H;rw [show wrap64 ((1:Int) + 1)=2 from by unfold wrap64;omega] at H;have d3n:decide (1 < ps.length)=true:=decide_eq_true (by have:=C3.out;omega);have H':=Aside0.mk H;rw [show ((1:Int)).toNat=1 from rfl,show ad.add 1=⟨ad.block,ad.off + 1,none⟩ from rfl] at hxp;clear H z0;go_wp2_with (first|(go_at_call 61;(try simp only [i64_w,i32_w]);(with_reducible refine (impl_within.calls (rd ps 1) 0 (wrap64 ((l0.length:Int) - 1)) true _ HT.out).mono ?_);rintro e w' ⟨rfl,⟨nd,rfl⟩⟩));go_roundg k1
      case measure=>have:=HK1.out;omega
      case rel=>exact ⟨2,x0,(rd_T99 l0 (rd ps 1)).f1,x2,(by first|rfl|(simp;done)),H',⟨by have:=HK1.out;omega⟩,⟨blk_far (blk_drewN BN.out _) NE1 _⟩,⟨blk_put (cs:=#[.int .i64 x0,.int .i64 x1,.int .i64 x2]) (blk_drewN BA.out _) 1 _ rfl⟩,⟨Kd.R_set (Kd.R_drewN HR.out _) (blk_drewN BA.out _) (by decide) 1 _⟩,⟨below_set (pw_below_drewN HB.out _) GA.out⟩⟩
     rw [if_neg z1] at H
     by_cases z2:i=2
     ·subst z2;rw [if_pos rfl] at H;rw [show wrap64 ((2:Int) + 1)=3 from by unfold wrap64;omega] at H;have d3n:decide (2 < ps.length)=true:=decide_eq_true (by have:=C3.out;omega);have H':=Aside0.mk H;rw [show ((2:Int)).toNat=2 from rfl,show ad.add 2=⟨ad.block,ad.off + 2,none⟩ from rfl] at hxp;clear H z0 z1;go_wp2_with (first|(go_at_call 61;(try simp only [i64_w,i32_w]);(with_reducible refine (impl_within.calls (rd ps 2) 0 (wrap64 ((l0.length:Int) - 1)) true _ HT.out).mono ?_);rintro e w' ⟨rfl,⟨nd,rfl⟩⟩));go_roundg k1
      case measure=>have:=HK1.out;omega
      case rel=>exact ⟨3,x0,x1,(rd_T99 l0 (rd ps 2)).f1,(by first|rfl|(simp;done)),H',⟨by have:=HK1.out;omega⟩,⟨blk_far (blk_drewN BN.out _) NE1 _⟩,⟨blk_put (cs:=#[.int .i64 x0,.int .i64 x1,.int .i64 x2]) (blk_drewN BA.out _) 2 _ rfl⟩,⟨Kd.R_set (Kd.R_drewN HR.out _) (blk_drewN BA.out _) (by decide) 2 _⟩,⟨below_set (pw_below_drewN HB.out _) GA.out⟩⟩
     rw [if_neg z2] at H;cases H
   ·rw [if_neg c3] at H;have d3:decide (i < (ps.length:Int))=false:=decide_eq_false c3;clear c3;obtain rfl:=os H;have h:rgS o ww kk b x0 x1 x2=some r:=HF.out;clear H HF;have NE1:=NE.out
    have NE2:ga≠gn:=fun e=>NE.out e.symm
    obtain ⟨hcn0,hcn1,hcn2,hcn3,hcn4,hcn5⟩:=c6_ BN;obtain ⟨hcw0,hcw1,hcw2⟩:=c3_ BA;have hfw0:=blk_frozen BA.out 0;have hfw1:=blk_frozen BA.out 1;have hfw2:=blk_frozen BA.out 2;unfold rgS at h
    by_cases z0:o=0
    ·rw [if_pos z0] at h;have e0:(o == 0)=true:=beq_iff_eq.2 z0;have HQ:=Aside0.mk h;clear h z0;go_wp2_with (first|(go_at_call 165;(try simp only [i64_w,i32_w]);(with_reducible refine (impl_WordOk.calls ww kk r _ HQ.out).mono ?_);rintro e w' ⟨rfl,⟨nd,rfl⟩⟩));go_ret;exact ⟨rfl,by repeat (first|exact HB.out|apply pw_below_drewN)⟩
    rw [if_neg z0] at h;have e0:(o == 0)=false:=beq_eq_false_iff_ne.2 z0
    by_cases z1:o=1
    ·rw [if_pos z1] at h;have e1:(o == 1)=true:=beq_iff_eq.2 z1;have HQ:=Aside0.mk h;clear h z0 z1;go_wp2_with (first|(go_at_call 120;(try simp only [i64_w,i32_w]);(with_reducible refine (impl_isVar.calls kk r _ HQ.out).mono ?_);rintro e w' ⟨rfl,⟨nd,rfl⟩⟩));go_ret;exact ⟨rfl,by repeat (first|exact HB.out|apply pw_below_drewN)⟩
    rw [if_neg z1] at h;have e1:(o == 1)=false:=beq_eq_false_iff_ne.2 z1
    by_cases z2:o=2
    ·rw [if_pos z2] at h;have e2:(o == 2)=true:=beq_iff_eq.2 z2;obtain rfl:=Option.some.inj h;clear h z0 z1 z2;go_wp2;go_ret;exact ⟨rfl,by repeat (first|exact HB.out|apply pw_below_drewN)⟩
    rw [if_neg z2] at h;have e2:(o == 2)=false:=beq_eq_false_iff_ne.2 z2;obtain ⟨t,ht,h⟩:=Option.bind_eq_some_iff.1 h;have HT:=Aside0.mk ht;clear ht
    cases t with
    | true =>
     rw [if_pos rfl] at h;clear z0 z1 z2
     by_cases y:x0=ww
     ·have f0:(x0 == ww)=true:=beq_iff_eq.2 y;rw [if_pos y] at h;obtain rfl:=Option.some.inj h;clear y h;go_wp2_with (first|(go_at_call 61;(try simp only [i64_w,i32_w]);(with_reducible refine (impl_within.calls o 3 12 true _ HT.out).mono ?_);rintro e w' ⟨rfl,⟨nd,rfl⟩⟩));go_ret;exact ⟨rfl,by repeat (first|exact HB.out|apply pw_below_drewN)⟩
     ·have f0:(x0 == ww)=false:=beq_eq_false_iff_ne.2 y;rw [if_neg y] at h;obtain rfl:=Option.some.inj h;clear y h;go_wp2_with (first|(go_at_call 61;(try simp only [i64_w,i32_w]);(with_reducible refine (impl_within.calls o 3 12 true _ HT.out).mono ?_);rintro e w' ⟨rfl,⟨nd,rfl⟩⟩));go_ret;exact ⟨rfl,by repeat (first|exact HB.out|apply pw_below_drewN)⟩
    | false =>
    rw [if_neg (by decide)] at h;obtain ⟨t,ht,h⟩:=Option.bind_eq_some_iff.1 h;have HT2:=Aside0.mk ht;clear ht
    cases t with
    | true =>
     rw [if_pos rfl] at h;clear z0 z1 z2
     by_cases y:x0=x1
     ·have f0:(x0 == x1)=true:=beq_iff_eq.2 y;rw [if_pos y] at h;obtain rfl:=Option.some.inj h;clear y h;go_wp2_with (first|(go_at_call 61;(try simp only [i64_w,i32_w]);(with_reducible refine (impl_within.calls o 3 12 false _ HT.out).mono ?_);rintro e w' ⟨rfl,⟨nd,rfl⟩⟩)|(go_at_call 61;(try simp only [i64_w,i32_w]);(with_reducible refine (impl_within.calls o 13 15 true _ HT2.out).mono ?_);rintro e w' ⟨rfl,⟨nd,rfl⟩⟩));go_ret;exact ⟨rfl,by repeat (first|exact HB.out|apply pw_below_drewN)⟩
     ·have f0:(x0 == x1)=false:=beq_eq_false_iff_ne.2 y;rw [if_neg y] at h;obtain rfl:=Option.some.inj h;clear y h;go_wp2_with (first|(go_at_call 61;(try simp only [i64_w,i32_w]);(with_reducible refine (impl_within.calls o 3 12 false _ HT.out).mono ?_);rintro e w' ⟨rfl,⟨nd,rfl⟩⟩)|(go_at_call 61;(try simp only [i64_w,i32_w]);(with_reducible refine (impl_within.calls o 13 15 true _ HT2.out).mono ?_);rintro e w' ⟨rfl,⟨nd,rfl⟩⟩));go_ret;exact ⟨rfl,by repeat (first|exact HB.out|apply pw_below_drewN)⟩
    | false =>
    rw [if_neg (by decide)] at h
    by_cases z3:o=16
    ·rw [if_pos z3] at h;have e3:(o == 16)=true:=beq_iff_eq.2 z3;obtain rfl:=Option.some.inj h;clear h z0 z1 z2 z3;go_wp2_with (first|(go_at_call 61;(try simp only [i64_w,i32_w]);(with_reducible refine (impl_within.calls o 3 12 false _ HT.out).mono ?_);rintro e w' ⟨rfl,⟨nd,rfl⟩⟩)|(go_at_call 61;(try simp only [i64_w,i32_w]);(with_reducible refine (impl_within.calls o 13 15 false _ HT2.out).mono ?_);rintro e w' ⟨rfl,⟨nd,rfl⟩⟩));go_ret;exact ⟨rfl,by repeat (first|exact HB.out|apply pw_below_drewN)⟩
    rw [if_neg z3] at h;have e3:(o == 16)=false:=beq_eq_false_iff_ne.2 z3
    by_cases z4:o=17
    ·rw [if_pos z4] at h;have e4:(o == 17)=true:=beq_iff_eq.2 z4;have HQ:=Aside0.mk h;clear h z0 z1 z2 z3 z4;go_wp2_with (first|(go_at_call 61;(try simp only [i64_w,i32_w]);(with_reducible refine (impl_within.calls o 3 12 false _ HT.out).mono ?_);rintro e w' ⟨rfl,⟨nd,rfl⟩⟩)|(go_at_call 61;(try simp only [i64_w,i32_w]);(with_reducible refine (impl_within.calls o 13 15 false _ HT2.out).mono ?_);rintro e w' ⟨rfl,⟨nd,rfl⟩⟩)|(go_at_call 61;(try simp only [i64_w,i32_w]);(with_reducible refine (impl_within.calls kk 0 (wrap64 (x0 - ww)) r _ HQ.out).mono ?_);rintro e w' ⟨rfl,⟨nd,rfl⟩⟩));go_ret;exact ⟨rfl,by repeat (first|exact HB.out|apply pw_below_drewN)⟩
    rw [if_neg z4] at h;have e4:(o == 17)=false:=beq_eq_false_iff_ne.2 z4
    by_cases z5:o=18
    ·rw [if_pos z5] at h;have e5:(o == 18)=true:=beq_iff_eq.2 z5;clear z0 z1 z2 z3 z4 z5
     by_cases y:x0=1
     ·have f0:(x0 == 1)=true:=beq_iff_eq.2 y;rw [if_pos y] at h
      by_cases y2:x1=ww
      ·have f1:(x1 == ww)=true:=beq_iff_eq.2 y2;rw [if_pos y2] at h;obtain rfl:=Option.some.inj h;clear y y2 h;go_wp2_with (first|(go_at_call 61;(try simp only [i64_w,i32_w]);(with_reducible refine (impl_within.calls o 3 12 false _ HT.out).mono ?_);rintro e w' ⟨rfl,⟨nd,rfl⟩⟩)|(go_at_call 61;(try simp only [i64_w,i32_w]);(with_reducible refine (impl_within.calls o 13 15 false _ HT2.out).mono ?_);rintro e w' ⟨rfl,⟨nd,rfl⟩⟩));go_ret;exact ⟨rfl,by repeat (first|exact HB.out|apply pw_below_drewN)⟩
      ·have f1:(x1 == ww)=false:=beq_eq_false_iff_ne.2 y2;rw [if_neg y2] at h;obtain rfl:=Option.some.inj h;clear y y2 h;go_wp2_with (first|(go_at_call 61;(try simp only [i64_w,i32_w]);(with_reducible refine (impl_within.calls o 3 12 false _ HT.out).mono ?_);rintro e w' ⟨rfl,⟨nd,rfl⟩⟩)|(go_at_call 61;(try simp only [i64_w,i32_w]);(with_reducible refine (impl_within.calls o 13 15 false _ HT2.out).mono ?_);rintro e w' ⟨rfl,⟨nd,rfl⟩⟩));go_ret;exact ⟨rfl,by repeat (first|exact HB.out|apply pw_below_drewN)⟩
     ·have f0:(x0 == 1)=false:=beq_eq_false_iff_ne.2 y;rw [if_neg y] at h;obtain rfl:=Option.some.inj h;clear y h;go_wp2_with (first|(go_at_call 61;(try simp only [i64_w,i32_w]);(with_reducible refine (impl_within.calls o 3 12 false _ HT.out).mono ?_);rintro e w' ⟨rfl,⟨nd,rfl⟩⟩)|(go_at_call 61;(try simp only [i64_w,i32_w]);(with_reducible refine (impl_within.calls o 13 15 false _ HT2.out).mono ?_);rintro e w' ⟨rfl,⟨nd,rfl⟩⟩));go_ret;exact ⟨rfl,by repeat (first|exact HB.out|apply pw_below_drewN)⟩
    rw [if_neg z5] at h;have e5:(o == 18)=false:=beq_eq_false_iff_ne.2 z5;obtain ⟨t,ht,h⟩:=Option.bind_eq_some_iff.1 h;have HV:=Aside0.mk ht;clear ht z0 z1 z2 z3 z4 z5
    cases t with
    | false =>
     rw [if_neg (by decide)] at h;obtain rfl:=Option.some.inj h;clear h;go_wp2_with (first|(go_at_call 61;(try simp only [i64_w,i32_w]);(with_reducible refine (impl_within.calls o 3 12 false _ HT.out).mono ?_);rintro e w' ⟨rfl,⟨nd,rfl⟩⟩)|(go_at_call 61;(try simp only [i64_w,i32_w]);(with_reducible refine (impl_within.calls o 13 15 false _ HT2.out).mono ?_);rintro e w' ⟨rfl,⟨nd,rfl⟩⟩)|(go_at_call 120;(try simp only [i64_w,i32_w]);(with_reducible refine (impl_isVar.calls kk false _ HV.out).mono ?_);rintro e w' ⟨rfl,⟨nd,rfl⟩⟩));go_ret;exact ⟨rfl,by repeat (first|exact HB.out|apply pw_below_drewN)⟩
    | true =>
    rw [if_pos rfl] at h;obtain ⟨t,ht,h⟩:=Option.bind_eq_some_iff.1 h;have HV2:=Aside0.mk ht;clear ht
    cases t with
    | false =>
     rw [if_neg (by decide)] at h;obtain rfl:=Option.some.inj h;clear h;go_wp2_with (first|(go_at_call 61;(try simp only [i64_w,i32_w]);(with_reducible refine (impl_within.calls o 3 12 false _ HT.out).mono ?_);rintro e w' ⟨rfl,⟨nd,rfl⟩⟩)|(go_at_call 61;(try simp only [i64_w,i32_w]);(with_reducible refine (impl_within.calls o 13 15 false _ HT2.out).mono ?_);rintro e w' ⟨rfl,⟨nd,rfl⟩⟩)|(go_at_call 120;(try simp only [i64_w,i32_w]);(with_reducible refine (impl_isVar.calls kk true _ HV.out).mono ?_);rintro e w' ⟨rfl,⟨nd,rfl⟩⟩)|(go_at_call 119;(try simp only [i64_w,i32_w]);(with_reducible refine (impl_isWidth.calls b false _ HV2.out).mono ?_);rintro e w' ⟨rfl,⟨nd,rfl⟩⟩));go_ret;exact ⟨rfl,by repeat (first|exact HB.out|apply pw_below_drewN)⟩
    | true =>
    rw [if_pos rfl] at h
    by_cases y:x0=1
    ·have f0:(x0 == 1)=true:=beq_iff_eq.2 y;rw [if_pos y] at h;obtain rfl:=Option.some.inj h;clear y h;go_wp2_with (first|(go_at_call 61;(try simp only [i64_w,i32_w]);(with_reducible refine (impl_within.calls o 3 12 false _ HT.out).mono ?_);rintro e w' ⟨rfl,⟨nd,rfl⟩⟩)|(go_at_call 61;(try simp only [i64_w,i32_w]);(with_reducible refine (impl_within.calls o 13 15 false _ HT2.out).mono ?_);rintro e w' ⟨rfl,⟨nd,rfl⟩⟩)|(go_at_call 120;(try simp only [i64_w,i32_w]);(with_reducible refine (impl_isVar.calls kk true _ HV.out).mono ?_);rintro e w' ⟨rfl,⟨nd,rfl⟩⟩)|(go_at_call 119;(try simp only [i64_w,i32_w]);(with_reducible refine (impl_isWidth.calls b true _ HV2.out).mono ?_);rintro e w' ⟨rfl,⟨nd,rfl⟩⟩));go_ret;exact ⟨rfl,by repeat (first|exact HB.out|apply pw_below_drewN)⟩
    ·have f0:(x0 == 1)=false:=beq_eq_false_iff_ne.2 y;rw [if_neg y] at h;obtain rfl:=Option.some.inj h;clear y h;go_wp2_with (first|(go_at_call 61;(try simp only [i64_w,i32_w]);(with_reducible refine (impl_within.calls o 3 12 false _ HT.out).mono ?_);rintro e w' ⟨rfl,⟨nd,rfl⟩⟩)|(go_at_call 61;(try simp only [i64_w,i32_w]);(with_reducible refine (impl_within.calls o 13 15 false _ HT2.out).mono ?_);rintro e w' ⟨rfl,⟨nd,rfl⟩⟩)|(go_at_call 120;(try simp only [i64_w,i32_w]);(with_reducible refine (impl_isVar.calls kk true _ HV.out).mono ?_);rintro e w' ⟨rfl,⟨nd,rfl⟩⟩)|(go_at_call 119;(try simp only [i64_w,i32_w]);(with_reducible refine (impl_isWidth.calls b true _ HV2.out).mono ?_);rintro e w' ⟨rfl,⟨nd,rfl⟩⟩));go_ret;exact ⟨rfl,by repeat (first|exact HB.out|apply pw_below_drewN)⟩
end Go.Proofs.Ythipjoioicmcnaa.G
