-- by a program of this session's, over the kit's words
import Derived.Test.YtjhgkonacdimfabPZFnExactCmdOk
import Derived.Test.YtjhgkonacdimfabPFnExactCmdOkx0
namespace Go.Proofs.Ytjhgkonacdimfab.PFnExactCmdOk
open Go.RowKit Go.Proofs.YtjhgkonacdimfabW.PrintWords Go.Proofs.YtjhgkonacdimfabW.PrintLast Go.Proofs.YtjhgkonacdimfabW.PrintMore Go.Proofs.YtjhgkonacdimfabV Go.Proofs.Ytjhgkonacdimfab.ZFnExactCmdOk
open Go.Value renaming int → I, slice → Y
open Go.IntKind renaming i64 → L
open Aside0 renaming mk → D
open Option renaming bind_eq_some_iff → bs_
attribute [local go_sem] max2_int min2_int max_two min_two max_three min_three max_four min_four   -- for this text's walks alone
set_option linter.unusedVariables false
set_option linter.unusedSimpArgs false

/-! ### laws_eqAddr: function 54 -/
def laws_eqAddr.f (a0_0 a0_1 a0_2 a0_3 a0_4 a1_0 a1_1 a1_2 a1_3 a1_4 : Int) : Option (Bool) := if a0_0 = a1_0 then (if a0_1 = a1_1 then (if a0_2 = a1_2 then (if a0_3 = a1_3 then (if a0_4 = a1_4 then (some true) else (some false)) else (some false)) else (some false)) else (some false)) else (some false)
set_option maxHeartbeats 8000000 in
set_option maxRecDepth 100000 in
theorem laws_eqAddr.calls (a0_0 a0_1 a0_2 a0_3 a0_4 a1_0 a1_1 a1_2 a1_3 a1_4 : Int) (r : Bool) (w : World) (h : laws_eqAddr.f a0_0 a0_1 a0_2 a0_3 a0_4 a1_0 a1_1 a1_2 a1_3 a1_4 = some r) :
  Calls Try.prog 54 #[.agg #[I L a0_0,I L a0_1,I L a0_2,I L a0_3,I L a0_4],.agg #[I L a1_0,I L a1_1,I L a1_2,I L a1_3,I L a1_4]] w fun e w'=>e=.returned (.bool r)∧Below w.heap.size w w':=by
 have hu35 := Try.underlying35
 have HB := D (Below.refl w.heap.size w)
 have H:(if a0_0=a1_0 then (if a0_1=a1_1 then (if a0_2=a1_2 then (if a0_3=a1_3 then (if a0_4=a1_4 then (some true) else (some false)) else (some false)) else (some false)) else (some false)) else (some false))=some r:=h
 clear h
 have HU3 := D H
 clear H
 go_enter Try.func54, Try.ntmps54
 go_upto_if 9 with (first|((with_reducible refine gate_dst (N:=2) rfl ?_);refine bx_ (N:=2) (cs:=#[I L a0_0,I L a0_1,I L a0_2,I L a0_3,I L a0_4]) (t:=35) ?_;intro gb478 hg w4 hbox hb;have n_:=an_ (below_step (pB_ HB.out) hb)<|an_ (hbox)<|an_ (bg_ hg (pB_ HB.out):w.heap.size≤gb478)<|D (bg_ hg (pB_ HB.out):w.heap.size≤gb478);clear HB;obtain ⟨HB,BK478,GW478,GE478⟩:=n_;clear hb hbox hg)|((with_reducible refine gate_dst (N:=3) rfl ?_);refine bx_ (N:=3) (cs:=#[I L a1_0,I L a1_1,I L a1_2,I L a1_3,I L a1_4]) (t:=35) ?_;intro gb479 hg w5 hbox hb;have n_:=an_ (blk_below (pk_ BK478.out) hb)<|an_ (below_step (pB_ HB.out) hb)<|an_ (hbox)<|an_ (bg_ hg (pB_ HB.out):w.heap.size≤gb479)<|an_ (bg_ hg (pB_ HB.out):w.heap.size≤gb479)<|an_ (nl_ hg (pk_ BK478.out):gb478≠gb479)<|D (by rw [hg];exact Nat.ne_of_gt (blk_lt (pk_ BK478.out)):gb479≠gb478);clear BK478 HB;obtain ⟨BK478,HB,BK479,GW479,GE479,NB478_479,NB479_478⟩:=n_;clear hb hbox hg;(try have:=NB478_479.out);(try have:=NB479_478.out);have hcz7_0:=cells5 BK478.out;have hcz8_0:=cells5 BK479.out))
 have H := HU3.out
 clear HU3
 by_cases c9 : a0_0 = a1_0
 ·rw [if_pos c9] at H
  have c9b0:(a0_0 == a1_0)=true:=beq_iff_eq.mpr c9;have c9b1:(a0_0 != a1_0)=false:=bne_eq_false_iff_eq.mpr c9;clear c9;refine rw_ c9b0 ?_
  by_cases c10 : a0_1 = a1_1
  ·rw [if_pos c10] at H
   have c10b0 : (a0_1 == a1_1) = true := beq_iff_eq.mpr c10; have c10b1 : (a0_1 != a1_1) = false := bne_eq_false_iff_eq.mpr c10; clear c10
   by_cases c11 : a0_2 = a1_2
   ·rw [if_pos c11] at H
    have c11b0 : (a0_2 == a1_2) = true := beq_iff_eq.mpr c11; have c11b1 : (a0_2 != a1_2) = false := bne_eq_false_iff_eq.mpr c11; clear c11
    by_cases c12 : a0_3 = a1_3
    ·rw [if_pos c12] at H
     have c12b0 : (a0_3 == a1_3) = true := beq_iff_eq.mpr c12; have c12b1 : (a0_3 != a1_3) = false := bne_eq_false_iff_eq.mpr c12; clear c12
     by_cases c13 : a0_4 = a1_4
     ·rw [if_pos c13] at H
      have c13b0:(a0_4 == a1_4)=true:=beq_iff_eq.mpr c13;have c13b1:(a0_4 != a1_4)=false:=bne_eq_false_iff_eq.mpr c13;clear c13;obtain rfl:=Option.some.inj H;(try have:=NB478_479.out);(try have:=NB479_478.out);have hcz15_0:=cells5 BK478.out;have hcz16_0:=cells5 BK479.out
      go_wp2
      go_ret; exact ⟨er_, pB_ HB.out⟩
     ·rw [if_neg c13] at H
      have c13b0:(a0_4 == a1_4)=false:=beq_eq_false_iff_ne.mpr c13;have c13b1:(a0_4 != a1_4)=true:=bne_iff_ne.mpr c13;obtain rfl:=Option.some.inj H;(try have:=NB478_479.out);(try have:=NB479_478.out);have hcz18_0:=cells5 BK478.out;have hcz19_0:=cells5 BK479.out
      go_wp2
      go_ret; exact ⟨er_, pB_ HB.out⟩
    ·rw [if_neg c12] at H
     have c12b0:(a0_3 == a1_3)=false:=beq_eq_false_iff_ne.mpr c12;have c12b1:(a0_3 != a1_3)=true:=bne_iff_ne.mpr c12;obtain rfl:=Option.some.inj H;(try have:=NB478_479.out);(try have:=NB479_478.out);have hcz21_0:=cells5 BK478.out;have hcz22_0:=cells5 BK479.out
     go_wp2
     go_ret; exact ⟨er_, pB_ HB.out⟩
   ·rw [if_neg c11] at H
    have c11b0:(a0_2 == a1_2)=false:=beq_eq_false_iff_ne.mpr c11;have c11b1:(a0_2 != a1_2)=true:=bne_iff_ne.mpr c11;obtain rfl:=Option.some.inj H;(try have:=NB478_479.out);(try have:=NB479_478.out);have hcz24_0:=cells5 BK478.out;have hcz25_0:=cells5 BK479.out
    go_wp2
    go_ret; exact ⟨er_, pB_ HB.out⟩
  ·rw [if_neg c10] at H
   have c10b0:(a0_1 == a1_1)=false:=beq_eq_false_iff_ne.mpr c10;have c10b1:(a0_1 != a1_1)=true:=bne_iff_ne.mpr c10;obtain rfl:=Option.some.inj H;(try have:=NB478_479.out);(try have:=NB479_478.out);have hcz27_0:=cells5 BK478.out;have hcz28_0:=cells5 BK479.out
   go_wp2
   go_ret; exact ⟨er_, pB_ HB.out⟩
 ·rw [if_neg c9] at H
  have c9b0:(a0_0 == a1_0)=false:=beq_eq_false_iff_ne.mpr c9;have c9b1:(a0_0 != a1_0)=true:=bne_iff_ne.mpr c9;refine rw_ c9b0 ?_;obtain rfl:=Option.some.inj H
  go_wp2
  go_ret; exact ⟨er_, pB_ HB.out⟩

/-! ### laws_eqPrefix: function 39 -/
def laws_eqPrefix.f (a0_0 a0_1 a0_2 a0_3 a0_4 a0_5 a1_0 a1_1 a1_2 a1_3 a1_4 a1_5 : Int) : Option (Bool) := (laws_eqAddr.f a0_0 a0_1 a0_2 a0_3 a0_4 a1_0 a1_1 a1_2 a1_3 a1_4).bind fun t482 => (if t482 = true then (if a0_5 = a1_5 then (some true) else (some false)) else (some false))
set_option maxHeartbeats 8000000 in
set_option maxRecDepth 100000 in
theorem laws_eqPrefix.calls (a0_0 a0_1 a0_2 a0_3 a0_4 a0_5 a1_0 a1_1 a1_2 a1_3 a1_4 a1_5 : Int) (r : Bool) (w : World) (h : laws_eqPrefix.f a0_0 a0_1 a0_2 a0_3 a0_4 a0_5 a1_0 a1_1 a1_2 a1_3 a1_4 a1_5 = some r) :
  Calls Try.prog 39 #[.agg #[I L a0_0,I L a0_1,I L a0_2,I L a0_3,I L a0_4,I L a0_5],.agg #[I L a1_0,I L a1_1,I L a1_2,I L a1_3,I L a1_4,I L a1_5]] w fun e w'=>e=.returned (.bool r)∧Below w.heap.size w w':=by
 have hu37 := Try.underlying37
 have hu35 := Try.underlying35
 have HB := D (Below.refl w.heap.size w)
 have H:((laws_eqAddr.f a0_0 a0_1 a0_2 a0_3 a0_4 a1_0 a1_1 a1_2 a1_3 a1_4).bind fun t482=>(if t482=true then (if a0_5=a1_5 then (some true) else (some false)) else (some false)))=some r:=h
 clear h
 obtain ⟨t482, A30, H⟩ := bs_.mp H
 (try dsimp only at H)
 have A3 := D A30
 clear A30
 have HU4 := D H
 clear H
 go_enter Try.func39, Try.ntmps39
 go_upto_if 10 with (first|((with_reducible refine gate_dst (N:=2) rfl ?_);refine bx_ (N:=2) (cs:=#[I L a0_0,I L a0_1,I L a0_2,I L a0_3,I L a0_4,I L a0_5]) (t:=37) ?_;intro gb480 hg w5 hbox hb;have n_:=an_ (below_step (pB_ HB.out) hb)<|an_ (hbox)<|an_ (bg_ hg (pB_ HB.out):w.heap.size≤gb480)<|D (bg_ hg (pB_ HB.out):w.heap.size≤gb480);clear HB;obtain ⟨HB,BK480,GW480,GE480⟩:=n_;clear hb hbox hg)|((with_reducible refine gate_dst (N:=3) rfl ?_);refine bx_ (N:=3) (cs:=#[I L a1_0,I L a1_1,I L a1_2,I L a1_3,I L a1_4,I L a1_5]) (t:=37) ?_;intro gb481 hg w6 hbox hb;have n_:=an_ (blk_below (pk_ BK480.out) hb)<|an_ (below_step (pB_ HB.out) hb)<|an_ (hbox)<|an_ (bg_ hg (pB_ HB.out):w.heap.size≤gb481)<|an_ (bg_ hg (pB_ HB.out):w.heap.size≤gb481)<|an_ (nl_ hg (pk_ BK480.out):gb480≠gb481)<|D (by rw [hg];exact Nat.ne_of_gt (blk_lt (pk_ BK480.out)):gb481≠gb480);clear BK480 HB;obtain ⟨BK480,HB,BK481,GW481,GE481,NB480_481,NB481_480⟩:=n_;clear hb hbox hg;(try have:=NB480_481.out);(try have:=NB481_480.out);have hcz8_0:=cells6 BK480.out;have hcz9_0:=cells6 BK481.out)|((with_reducible refine gate_callee (f:=54) rfl ?_);refine goesL_ (some 9) rfl rfl Try.func54 (by kernel_rfl) rfl #[.agg #[I L a0_0,I L a0_1,I L a0_2,I L a0_3,I L a0_4],.agg #[I L a1_0,I L a1_1,I L a1_2,I L a1_3,I L a1_4]] rfl Z6 ?_;(with_reducible refine (laws_eqAddr.calls a0_0 a0_1 a0_2 a0_3 a0_4 a1_0 a1_1 a1_2 a1_3 a1_4 t482 _ A3.out).mono ?_);rintro e w10 ⟨rfl,hb⟩;refine ⟨_,rfl,?_⟩;have n_:=an_ (blk_below (pk_ BK480.out) hb)<|an_ (blk_below (pk_ BK481.out) hb)<|D (below_step (pB_ HB.out) hb);clear BK480 BK481 HB;obtain ⟨BK480,BK481,HB⟩:=n_;(try clear hb)))
 have H := HU4.out
 clear HU4
 by_cases c11 : t482 = true
 ·subst c11
  rw [if_pos rfl] at H
  by_cases c12 : a0_5 = a1_5
  ·rw [if_pos c12] at H
   have c12b0:(a0_5 == a1_5)=true:=beq_iff_eq.mpr c12;have c12b1:(a0_5 != a1_5)=false:=bne_eq_false_iff_eq.mpr c12;clear c12;refine rw_ c12b0 ?_;obtain rfl:=Option.some.inj H;(try have:=NB480_481.out);(try have:=NB481_480.out);have hcz14_0:=cells6 BK480.out;have hcz15_0:=cells6 BK481.out
   go_wp2
   go_ret; exact ⟨er_, pB_ HB.out⟩
  ·rw [if_neg c12] at H
   have c12b0:(a0_5 == a1_5)=false:=beq_eq_false_iff_ne.mpr c12;have c12b1:(a0_5 != a1_5)=true:=bne_iff_ne.mpr c12;refine rw_ c12b0 ?_;obtain rfl:=Option.some.inj H;(try have:=NB480_481.out);(try have:=NB481_480.out);have hcz17_0:=cells6 BK480.out;have hcz18_0:=cells6 BK481.out
   go_wp2
   go_ret; exact ⟨er_, pB_ HB.out⟩
 ·replace c11 := Bool.eq_false_iff.mpr c11
  subst c11; rw [if_neg (show ¬ (false = true) by decide)] at H; obtain rfl := Option.some.inj H
  go_wp2
  go_ret; exact ⟨er_, pB_ HB.out⟩

end Go.Proofs.Ytjhgkonacdimfab.PFnExactCmdOk
