-- by a program of this session's, over the kit's words
import Derived.Test.YtjhgkonacdimfabPZFnExactCmdOk
import Derived.Test.YtjhgkonacdimfabPFnExactCmdOkx0
import Derived.Test.YtjhgkonacdimfabPFnExactCmdOkx24
namespace Go.Proofs.Ytjhgkonacdimfab.PFnExactCmdOk
open Go.RowKit Go.Proofs.YtjhgkonacdimfabW.PrintWords Go.Proofs.YtjhgkonacdimfabW.PrintLast Go.Proofs.YtjhgkonacdimfabW.PrintMore Go.Proofs.YtjhgkonacdimfabV Go.Proofs.Ytjhgkonacdimfab.ZFnExactCmdOk
open Go.Value renaming int → I, slice → Y
open Go.IntKind renaming i64 → L
open Aside0 renaming mk → D
open Option renaming bind_eq_some_iff → bs_
attribute [local go_sem] max2_int min2_int max_two min_two max_three min_three max_four min_four   -- for this text's walks alone
set_option linter.unusedVariables false
set_option linter.unusedSimpArgs false

/-! ### laws_eqLimits: function 25 -/
def laws_eqLimits.f (a0_0 a0_1 a0_2 a0_3 : Int) (a0_4 : Bool) (a1_0 a1_1 a1_2 a1_3 : Int) (a1_4 : Bool) : Option (Bool) := if a0_0 = a1_0 then (if a0_1 = a1_1 then (if a0_2 = a1_2 then (if a0_3 = a1_3 then (if (a0_4 != a1_4) = true then (some false) else (some true)) else (some false)) else (some false)) else (some false)) else (some false)
set_option maxHeartbeats 8000000 in
set_option maxRecDepth 100000 in
theorem laws_eqLimits.calls (a0_0 a0_1 a0_2 a0_3 : Int) (a0_4 : Bool) (a1_0 a1_1 a1_2 a1_3 : Int) (a1_4 r : Bool) (w : World) (h : laws_eqLimits.f a0_0 a0_1 a0_2 a0_3 a0_4 a1_0 a1_1 a1_2 a1_3 a1_4 = some r) :
  Calls Try.prog 25 #[.agg #[I L a0_0,I L a0_1,I L a0_2,I L a0_3,.bool a0_4],.agg #[I L a1_0,I L a1_1,I L a1_2,I L a1_3,.bool a1_4]] w fun e w'=>e=.returned (.bool r)∧Below w.heap.size w w':=by
 have hu40 := Try.underlying40
 have HB := D (Below.refl w.heap.size w)
 have H:(if a0_0=a1_0 then (if a0_1=a1_1 then (if a0_2=a1_2 then (if a0_3=a1_3 then (if (a0_4 != a1_4)=true then (some false) else (some true)) else (some false)) else (some false)) else (some false)) else (some false))=some r:=h
 clear h
 have HU3 := D H
 clear H
 go_enter Try.func25, Try.ntmps25
 go_upto_if 9 with (first|((with_reducible refine gate_dst (N:=2) rfl ?_);refine bx_ (N:=2) (cs:=#[I L a0_0,I L a0_1,I L a0_2,I L a0_3,.bool a0_4]) (t:=40) ?_;intro gb487 hg w4 hbox hb;have n_:=an_ (below_step (pB_ HB.out) hb)<|an_ (hbox)<|an_ (bg_ hg (pB_ HB.out):w.heap.size≤gb487)<|D (bg_ hg (pB_ HB.out):w.heap.size≤gb487);clear HB;obtain ⟨HB,BK487,GW487,GE487⟩:=n_;clear hb hbox hg)|((with_reducible refine gate_dst (N:=3) rfl ?_);refine bx_ (N:=3) (cs:=#[I L a1_0,I L a1_1,I L a1_2,I L a1_3,.bool a1_4]) (t:=40) ?_;intro gb488 hg w5 hbox hb;have n_:=an_ (blk_below (pk_ BK487.out) hb)<|an_ (below_step (pB_ HB.out) hb)<|an_ (hbox)<|an_ (bg_ hg (pB_ HB.out):w.heap.size≤gb488)<|an_ (bg_ hg (pB_ HB.out):w.heap.size≤gb488)<|an_ (nl_ hg (pk_ BK487.out):gb487≠gb488)<|D (by rw [hg];exact Nat.ne_of_gt (blk_lt (pk_ BK487.out)):gb488≠gb487);clear BK487 HB;obtain ⟨BK487,HB,BK488,GW488,GE488,NB487_488,NB488_487⟩:=n_;clear hb hbox hg;(try have:=NB487_488.out);(try have:=NB488_487.out);have hcz7_0:=cells5 BK487.out;have hcz8_0:=cells5 BK488.out))
 have H := HU3.out
 clear HU3
 by_cases c9 : a0_0 = a1_0
 ·rw [if_pos c9] at H
  have c9b0:(a0_0 == a1_0)=true:=beq_iff_eq.mpr c9;have c9b1:(a0_0 != a1_0)=false:=bne_eq_false_iff_eq.mpr c9;clear c9;refine rw_ c9b0 ?_
  by_cases c10 : a0_1 = a1_1
  ·rw [if_pos c10] at H
   have c10b0 : (a0_1 == a1_1) = true := beq_iff_eq.mpr c10; have c10b1 : (a0_1 != a1_1) = false := bne_eq_false_iff_eq.mpr c10; clear c10
   by_cases c11 : a0_2 = a1_2
   ·rw [if_pos c11] at H
    have c11b0 : (a0_2 == a1_2) = true := beq_iff_eq.mpr c11; have c11b1 : (a0_2 != a1_2) = false := bne_eq_false_iff_eq.mpr c11; clear c11
    by_cases c12 : a0_3 = a1_3
    ·rw [if_pos c12] at H
     have c12b0 : (a0_3 == a1_3) = true := beq_iff_eq.mpr c12; have c12b1 : (a0_3 != a1_3) = false := bne_eq_false_iff_eq.mpr c12; clear c12
     by_cases c13 : (a0_4 != a1_4) = true
     ·rw [if_pos c13] at H
      have c13b0:(a0_4 != a1_4)=true:=c13;(try (have c13b1:decide (a0_4=a1_4)=false:=by simpa using c13));(try (have c13b2:(a0_4 == a1_4)=false:=by simpa using c13));(try (have c13b3:¬ (a0_4=a1_4):=by simpa using c13));clear c13;obtain rfl:=Option.some.inj H;(try have:=NB487_488.out);(try have:=NB488_487.out);have hcz15_0:=cells5 BK487.out;have hcz16_0:=cells5 BK488.out
      go_wp2
      go_ret; exact ⟨er_, pB_ HB.out⟩
     ·rw [if_neg c13] at H
      have c13b0 : (a0_4 != a1_4) = false := by simpa using c13
      (try (have c13b1:decide (a0_4=a1_4)=true:=by simpa using c13));(try (have c13b2:(a0_4 == a1_4)=true:=by simpa using c13));clear c13;obtain rfl:=Option.some.inj H;(try have:=NB487_488.out);(try have:=NB488_487.out);have hcz18_0:=cells5 BK487.out;have hcz19_0:=cells5 BK488.out
      go_wp2
      go_ret; exact ⟨er_, pB_ HB.out⟩
    ·rw [if_neg c12] at H
     have c12b0:(a0_3 == a1_3)=false:=beq_eq_false_iff_ne.mpr c12;have c12b1:(a0_3 != a1_3)=true:=bne_iff_ne.mpr c12;obtain rfl:=Option.some.inj H;(try have:=NB487_488.out);(try have:=NB488_487.out);have hcz21_0:=cells5 BK487.out;have hcz22_0:=cells5 BK488.out
     go_wp2
     go_ret; exact ⟨er_, pB_ HB.out⟩
   ·rw [if_neg c11] at H
    have c11b0:(a0_2 == a1_2)=false:=beq_eq_false_iff_ne.mpr c11;have c11b1:(a0_2 != a1_2)=true:=bne_iff_ne.mpr c11;obtain rfl:=Option.some.inj H;(try have:=NB487_488.out);(try have:=NB488_487.out);have hcz24_0:=cells5 BK487.out;have hcz25_0:=cells5 BK488.out
    go_wp2
    go_ret; exact ⟨er_, pB_ HB.out⟩
  ·rw [if_neg c10] at H
   have c10b0:(a0_1 == a1_1)=false:=beq_eq_false_iff_ne.mpr c10;have c10b1:(a0_1 != a1_1)=true:=bne_iff_ne.mpr c10;obtain rfl:=Option.some.inj H;(try have:=NB487_488.out);(try have:=NB488_487.out);have hcz27_0:=cells5 BK487.out;have hcz28_0:=cells5 BK488.out
   go_wp2
   go_ret; exact ⟨er_, pB_ HB.out⟩
 ·rw [if_neg c9] at H
  have c9b0:(a0_0 == a1_0)=false:=beq_eq_false_iff_ne.mpr c9;have c9b1:(a0_0 != a1_0)=true:=bne_iff_ne.mpr c9;refine rw_ c9b0 ?_;obtain rfl:=Option.some.inj H
  go_wp2
  go_ret; exact ⟨er_, pB_ HB.out⟩

/-! ### laws_eqModule: function 40 -/
def laws_eqModule.f (a0_0 a0_1 a0_2 a0_3 a0_4 a0_5 a0_6 a0_7 a0_8 a0_9 a0_10 a0_11 a0_12 a0_13 a0_14 a0_15 a0_16 a1_0 a1_1 a1_2 a1_3 a1_4 a1_5 a1_6 a1_7 a1_8 a1_9 a1_10 a1_11 a1_12 a1_13 a1_14 a1_15 a1_16 : Int) : Option (Bool) := if a0_0 = a1_0 then ((laws_eqPrefix.f a0_1 a0_2 a0_3 a0_4 a0_5 a0_6 a1_1 a1_2 a1_3 a1_4 a1_5 a1_6).bind fun t491 => (if t491 = true then ((laws_eqPrefix.f a0_7 a0_8 a0_9 a0_10 a0_11 a0_12 a1_7 a1_8 a1_9 a1_10 a1_11 a1_12).bind fun t492 => (if t492 = true then (if a0_13 = a1_13 then (if a0_14 = a1_14 then (if a0_15 = a1_15 then (if a0_16 = a1_16 then (some true) else (some false)) else (some false)) else (some false)) else (some false)) else (some false))) else (some false))) else (some false)
set_option maxHeartbeats 8000000 in
set_option maxRecDepth 100000 in
theorem laws_eqModule.calls (a0_0 a0_1 a0_2 a0_3 a0_4 a0_5 a0_6 a0_7 a0_8 a0_9 a0_10 a0_11 a0_12 a0_13 a0_14 a0_15 a0_16 a1_0 a1_1 a1_2 a1_3 a1_4 a1_5 a1_6 a1_7 a1_8 a1_9 a1_10 a1_11 a1_12 a1_13 a1_14 a1_15 a1_16 : Int) (r : Bool) (w : World) (h : laws_eqModule.f a0_0 a0_1 a0_2 a0_3 a0_4 a0_5 a0_6 a0_7 a0_8 a0_9 a0_10 a0_11 a0_12 a0_13 a0_14 a0_15 a0_16 a1_0 a1_1 a1_2 a1_3 a1_4 a1_5 a1_6 a1_7 a1_8 a1_9 a1_10 a1_11 a1_12 a1_13 a1_14 a1_15 a1_16 = some r) :
  Calls Try.prog 40 #[.agg #[I L a0_0,I L a0_1,I L a0_2,I L a0_3,I L a0_4,I L a0_5,I L a0_6,I L a0_7,I L a0_8,I L a0_9,I L a0_10,I L a0_11,I L a0_12,I L a0_13,I L a0_14,I L a0_15,I L a0_16],.agg #[I L a1_0,I L a1_1,I L a1_2,I L a1_3,I L a1_4,I L a1_5,I L a1_6,I L a1_7,I L a1_8,I L a1_9,I L a1_10,I L a1_11,I L a1_12,I L a1_13,I L a1_14,I L a1_15,I L a1_16]] w fun e w'=>e=.returned (.bool r)∧Below w.heap.size w w':=by
 have hu65 := Try.underlying65
 have hu37 := Try.underlying37
 have HB := D (Below.refl w.heap.size w)
 have H:(if a0_0=a1_0 then ((laws_eqPrefix.f a0_1 a0_2 a0_3 a0_4 a0_5 a0_6 a1_1 a1_2 a1_3 a1_4 a1_5 a1_6).bind fun Jb=>(if Jb=true then ((laws_eqPrefix.f a0_7 a0_8 a0_9 a0_10 a0_11 a0_12 a1_7 a1_8 a1_9 a1_10 a1_11 a1_12).bind fun Kb=>(if Kb=true then (if a0_13=a1_13 then (if a0_14=a1_14 then (if a0_15=a1_15 then (if a0_16=a1_16 then (some true) else (some false)) else (some false)) else (some false)) else (some false)) else (some false))) else (some false))) else (some false))=some r:=h
 clear h
 have HU3 := D H
 clear H
 go_enter Try.func40, Try.ntmps40
 go_upto_if 9 with (first|((with_reducible refine gld_ 37 rfl ?_);(first|refine la37o1_ ?_|refine la37o7_ ?_))|((with_reducible refine gld_ 3 rfl ?_);refine lc3_ ?_)|((with_reducible refine gst_ 27 rfl ?_);refine sa27_ ?_)|((with_reducible refine gld_ 27 rfl ?_);refine la27_ ?_)|((with_reducible refine gst_ 39 rfl ?_);refine sa39_ ?_)|((with_reducible refine gld_ 39 rfl ?_);refine la39_ ?_)|((with_reducible refine gst_ 65 rfl ?_);refine sa65_ ?_)|((with_reducible refine gld_ 65 rfl ?_);refine la65_ ?_)|((with_reducible refine gate_dst (N:=2) rfl ?_);refine bx_ (N:=2) (cs:=#[I L a0_0,I L a0_1,I L a0_2,I L a0_3,I L a0_4,I L a0_5,I L a0_6,I L a0_7,I L a0_8,I L a0_9,I L a0_10,I L a0_11,I L a0_12,I L a0_13,I L a0_14,I L a0_15,I L a0_16]) (t:=65) ?_;intro Ma hg w4 hbox hb;have n_:=an_ (below_step (pB_ HB.out) hb)<|an_ (hbox)<|an_ (bg_ hg (pB_ HB.out):w.heap.size≤Ma)<|D (bg_ hg (pB_ HB.out):w.heap.size≤Ma);clear HB;obtain ⟨HB,Ja,Mb,Ob⟩:=n_;clear hb hbox hg)|((with_reducible refine gate_dst (N:=3) rfl ?_);refine bx_ (N:=3) (cs:=#[I L a1_0,I L a1_1,I L a1_2,I L a1_3,I L a1_4,I L a1_5,I L a1_6,I L a1_7,I L a1_8,I L a1_9,I L a1_10,I L a1_11,I L a1_12,I L a1_13,I L a1_14,I L a1_15,I L a1_16]) (t:=65) ?_;intro Oa hg w5 hbox hb;have n_:=an_ (blk_below (pk_ Ja.out) hb)<|an_ (below_step (pB_ HB.out) hb)<|an_ (hbox)<|an_ (bg_ hg (pB_ HB.out):w.heap.size≤Oa)<|an_ (bg_ hg (pB_ HB.out):w.heap.size≤Oa)<|an_ (nl_ hg (pk_ Ja.out):Ma≠Oa)<|D (by rw [hg];exact Nat.ne_of_gt (blk_lt (pk_ Ja.out)):Oa≠Ma);clear Ja HB;obtain ⟨Ja,HB,Ka,Ub,Xb,Ua,Xa⟩:=n_;clear hb hbox hg;(try have:=Ua.out);(try have:=Xa.out)))
 have H := HU3.out
 clear HU3
 by_cases c9 : a0_0 = a1_0
 ·rw [if_pos c9] at H
  have c9b0:(a0_0 == a1_0)=true:=beq_iff_eq.mpr c9;have c9b1:(a0_0 != a1_0)=false:=bne_eq_false_iff_eq.mpr c9;clear c9;refine rw_ c9b0 ?_;obtain ⟨Jb,A100,H⟩:=bs_.mp H;(try dsimp only at H);have A10:=D A100;clear A100;have HU11:=D H;clear H;(try have:=Ua.out);(try have:=Xa.out)
  go_upto_if 15 with (first|((with_reducible refine gld_ 37 rfl ?_);(first|refine la37o1_ ?_|refine la37o7_ ?_))|((with_reducible refine gld_ 3 rfl ?_);refine lc3_ ?_)|((with_reducible refine gst_ 27 rfl ?_);refine sa27_ ?_)|((with_reducible refine gld_ 27 rfl ?_);refine la27_ ?_)|((with_reducible refine gst_ 39 rfl ?_);refine sa39_ ?_)|((with_reducible refine gld_ 39 rfl ?_);refine la39_ ?_)|((with_reducible refine gst_ 65 rfl ?_);refine sa65_ ?_)|((with_reducible refine gld_ 65 rfl ?_);refine la65_ ?_)|((with_reducible refine gate_callee (f:=39) rfl ?_);refine goesL_ (some 14) rfl rfl Try.func39 (by kernel_rfl) rfl #[.agg #[I L a0_1,I L a0_2,I L a0_3,I L a0_4,I L a0_5,I L a0_6],.agg #[I L a1_1,I L a1_2,I L a1_3,I L a1_4,I L a1_5,I L a1_6]] rfl Z6 ?_;(with_reducible refine (laws_eqPrefix.calls a0_1 a0_2 a0_3 a0_4 a0_5 a0_6 a1_1 a1_2 a1_3 a1_4 a1_5 a1_6 Jb _ A10.out).mono ?_);rintro e w15 ⟨rfl,hb⟩;refine ⟨_,rfl,?_⟩;have n_:=an_ (blk_below (pk_ Ja.out) hb)<|an_ (blk_below (pk_ Ka.out) hb)<|D (below_step (pB_ HB.out) hb);clear Ja Ka HB;obtain ⟨Ja,Ka,HB⟩:=n_;(try clear hb)))
  have H := HU11.out; clear HU11
  by_cases c16 : Jb = true
  ·subst c16
   rw [if_pos rfl] at H;obtain ⟨Kb,A170,H⟩:=bs_.mp H;(try dsimp only at H);have A17:=D A170;clear A170;have HU18:=D H;clear H;(try have:=Ua.out);(try have:=Xa.out)
   go_upto_if 21 with (first|((with_reducible refine gld_ 37 rfl ?_);(first|refine la37o1_ ?_|refine la37o7_ ?_))|((with_reducible refine gld_ 3 rfl ?_);refine lc3_ ?_)|((with_reducible refine gst_ 27 rfl ?_);refine sa27_ ?_)|((with_reducible refine gld_ 27 rfl ?_);refine la27_ ?_)|((with_reducible refine gst_ 39 rfl ?_);refine sa39_ ?_)|((with_reducible refine gld_ 39 rfl ?_);refine la39_ ?_)|((with_reducible refine gst_ 65 rfl ?_);refine sa65_ ?_)|((with_reducible refine gld_ 65 rfl ?_);refine la65_ ?_)|((with_reducible refine gate_callee (f:=39) rfl ?_);refine goesL_ (some 20) rfl rfl Try.func39 (by kernel_rfl) rfl #[.agg #[I L a0_7,I L a0_8,I L a0_9,I L a0_10,I L a0_11,I L a0_12],.agg #[I L a1_7,I L a1_8,I L a1_9,I L a1_10,I L a1_11,I L a1_12]] rfl Z6 ?_;(with_reducible refine (laws_eqPrefix.calls a0_7 a0_8 a0_9 a0_10 a0_11 a0_12 a1_7 a1_8 a1_9 a1_10 a1_11 a1_12 Kb _ A17.out).mono ?_);rintro e w22 ⟨rfl,hb⟩;refine ⟨_,rfl,?_⟩;have n_:=an_ (blk_below (pk_ Ja.out) hb)<|an_ (blk_below (pk_ Ka.out) hb)<|D (below_step (pB_ HB.out) hb);clear Ja Ka HB;obtain ⟨Ja,Ka,HB⟩:=n_;(try clear hb)))
   have H := HU18.out; clear HU18
   by_cases c23 : Kb = true
   ·subst c23
    rw [if_pos rfl] at H
    by_cases c24 : a0_13 = a1_13
    ·rw [if_pos c24] at H
     have c24b0:(a0_13 == a1_13)=true:=beq_iff_eq.mpr c24;have c24b1:(a0_13 != a1_13)=false:=bne_eq_false_iff_eq.mpr c24;clear c24;refine rw_ c24b0 ?_
     by_cases c25 : a0_14 = a1_14
     ·rw [if_pos c25] at H
      have c25b0 : (a0_14 == a1_14) = true := beq_iff_eq.mpr c25; have c25b1 : (a0_14 != a1_14) = false := bne_eq_false_iff_eq.mpr c25; clear c25
      by_cases c26 : a0_15 = a1_15
      ·rw [if_pos c26] at H
       have c26b0 : (a0_15 == a1_15) = true := beq_iff_eq.mpr c26; have c26b1 : (a0_15 != a1_15) = false := bne_eq_false_iff_eq.mpr c26; clear c26
       by_cases c27 : a0_16 = a1_16
       ·rw [if_pos c27] at H
        have c27b0:(a0_16 == a1_16)=true:=beq_iff_eq.mpr c27;have c27b1:(a0_16 != a1_16)=false:=bne_eq_false_iff_eq.mpr c27;clear c27;obtain rfl:=Option.some.inj H;(try have:=Ua.out);(try have:=Xa.out)
        go_wp2_with (first|((with_reducible refine gld_ 37 rfl ?_);(first|refine la37o1_ ?_|refine la37o7_ ?_))|((with_reducible refine gld_ 3 rfl ?_);refine lc3_ ?_)|((with_reducible refine gst_ 27 rfl ?_);refine sa27_ ?_)|((with_reducible refine gld_ 27 rfl ?_);refine la27_ ?_)|((with_reducible refine gst_ 39 rfl ?_);refine sa39_ ?_)|((with_reducible refine gld_ 39 rfl ?_);refine la39_ ?_)|((with_reducible refine gst_ 65 rfl ?_);refine sa65_ ?_)|((with_reducible refine gld_ 65 rfl ?_);refine la65_ ?_))
        go_ret; exact ⟨er_, pB_ HB.out⟩
       ·rw [if_neg c27] at H
        have c27b0:(a0_16 == a1_16)=false:=beq_eq_false_iff_ne.mpr c27;have c27b1:(a0_16 != a1_16)=true:=bne_iff_ne.mpr c27;obtain rfl:=Option.some.inj H;(try have:=Ua.out);(try have:=Xa.out)
        go_wp2_with (first|((with_reducible refine gld_ 37 rfl ?_);(first|refine la37o1_ ?_|refine la37o7_ ?_))|((with_reducible refine gld_ 3 rfl ?_);refine lc3_ ?_)|((with_reducible refine gst_ 27 rfl ?_);refine sa27_ ?_)|((with_reducible refine gld_ 27 rfl ?_);refine la27_ ?_)|((with_reducible refine gst_ 39 rfl ?_);refine sa39_ ?_)|((with_reducible refine gld_ 39 rfl ?_);refine la39_ ?_)|((with_reducible refine gst_ 65 rfl ?_);refine sa65_ ?_)|((with_reducible refine gld_ 65 rfl ?_);refine la65_ ?_))
        go_ret; exact ⟨er_, pB_ HB.out⟩
      ·rw [if_neg c26] at H
       have c26b0:(a0_15 == a1_15)=false:=beq_eq_false_iff_ne.mpr c26;have c26b1:(a0_15 != a1_15)=true:=bne_iff_ne.mpr c26;obtain rfl:=Option.some.inj H;(try have:=Ua.out);(try have:=Xa.out)
       go_wp2_with (first|((with_reducible refine gld_ 37 rfl ?_);(first|refine la37o1_ ?_|refine la37o7_ ?_))|((with_reducible refine gld_ 3 rfl ?_);refine lc3_ ?_)|((with_reducible refine gst_ 27 rfl ?_);refine sa27_ ?_)|((with_reducible refine gld_ 27 rfl ?_);refine la27_ ?_)|((with_reducible refine gst_ 39 rfl ?_);refine sa39_ ?_)|((with_reducible refine gld_ 39 rfl ?_);refine la39_ ?_)|((with_reducible refine gst_ 65 rfl ?_);refine sa65_ ?_)|((with_reducible refine gld_ 65 rfl ?_);refine la65_ ?_))
       go_ret; exact ⟨er_, pB_ HB.out⟩
     ·rw [if_neg c25] at H
      have c25b0:(a0_14 == a1_14)=false:=beq_eq_false_iff_ne.mpr c25;have c25b1:(a0_14 != a1_14)=true:=bne_iff_ne.mpr c25;obtain rfl:=Option.some.inj H;(try have:=Ua.out);(try have:=Xa.out)
      go_wp2_with (first|((with_reducible refine gld_ 37 rfl ?_);(first|refine la37o1_ ?_|refine la37o7_ ?_))|((with_reducible refine gld_ 3 rfl ?_);refine lc3_ ?_)|((with_reducible refine gst_ 27 rfl ?_);refine sa27_ ?_)|((with_reducible refine gld_ 27 rfl ?_);refine la27_ ?_)|((with_reducible refine gst_ 39 rfl ?_);refine sa39_ ?_)|((with_reducible refine gld_ 39 rfl ?_);refine la39_ ?_)|((with_reducible refine gst_ 65 rfl ?_);refine sa65_ ?_)|((with_reducible refine gld_ 65 rfl ?_);refine la65_ ?_))
      go_ret; exact ⟨er_, pB_ HB.out⟩
    ·rw [if_neg c24] at H
     have c24b0:(a0_13 == a1_13)=false:=beq_eq_false_iff_ne.mpr c24;have c24b1:(a0_13 != a1_13)=true:=bne_iff_ne.mpr c24;refine rw_ c24b0 ?_;obtain rfl:=Option.some.inj H;(try have:=Ua.out);(try have:=Xa.out)
     go_wp2_with (first|((with_reducible refine gld_ 37 rfl ?_);(first|refine la37o1_ ?_|refine la37o7_ ?_))|((with_reducible refine gld_ 3 rfl ?_);refine lc3_ ?_)|((with_reducible refine gst_ 27 rfl ?_);refine sa27_ ?_)|((with_reducible refine gld_ 27 rfl ?_);refine la27_ ?_)|((with_reducible refine gst_ 39 rfl ?_);refine sa39_ ?_)|((with_reducible refine gld_ 39 rfl ?_);refine la39_ ?_)|((with_reducible refine gst_ 65 rfl ?_);refine sa65_ ?_)|((with_reducible refine gld_ 65 rfl ?_);refine la65_ ?_))
     go_ret; exact ⟨er_, pB_ HB.out⟩
   ·replace c23 := Bool.eq_false_iff.mpr c23
    subst c23; rw [if_neg (show ¬ (false = true) by decide)] at H; obtain rfl := Option.some.inj H
    go_wp2_with (first|((with_reducible refine gld_ 37 rfl ?_);(first|refine la37o1_ ?_|refine la37o7_ ?_))|((with_reducible refine gld_ 3 rfl ?_);refine lc3_ ?_)|((with_reducible refine gst_ 27 rfl ?_);refine sa27_ ?_)|((with_reducible refine gld_ 27 rfl ?_);refine la27_ ?_)|((with_reducible refine gst_ 39 rfl ?_);refine sa39_ ?_)|((with_reducible refine gld_ 39 rfl ?_);refine la39_ ?_)|((with_reducible refine gst_ 65 rfl ?_);refine sa65_ ?_)|((with_reducible refine gld_ 65 rfl ?_);refine la65_ ?_))
    go_ret; exact ⟨er_, pB_ HB.out⟩
  ·replace c16 := Bool.eq_false_iff.mpr c16
   subst c16; rw [if_neg (show ¬ (false = true) by decide)] at H; obtain rfl := Option.some.inj H
   go_wp2_with (first|((with_reducible refine gld_ 37 rfl ?_);(first|refine la37o1_ ?_|refine la37o7_ ?_))|((with_reducible refine gld_ 3 rfl ?_);refine lc3_ ?_)|((with_reducible refine gst_ 27 rfl ?_);refine sa27_ ?_)|((with_reducible refine gld_ 27 rfl ?_);refine la27_ ?_)|((with_reducible refine gst_ 39 rfl ?_);refine sa39_ ?_)|((with_reducible refine gld_ 39 rfl ?_);refine la39_ ?_)|((with_reducible refine gst_ 65 rfl ?_);refine sa65_ ?_)|((with_reducible refine gld_ 65 rfl ?_);refine la65_ ?_))
   go_ret; exact ⟨er_, pB_ HB.out⟩
 ·rw [if_neg c9] at H
  have c9b0:(a0_0 == a1_0)=false:=beq_eq_false_iff_ne.mpr c9;have c9b1:(a0_0 != a1_0)=true:=bne_iff_ne.mpr c9;refine rw_ c9b0 ?_;obtain rfl:=Option.some.inj H
  go_wp2_with (first|((with_reducible refine gld_ 37 rfl ?_);(first|refine la37o1_ ?_|refine la37o7_ ?_))|((with_reducible refine gld_ 3 rfl ?_);refine lc3_ ?_)|((with_reducible refine gst_ 27 rfl ?_);refine sa27_ ?_)|((with_reducible refine gld_ 27 rfl ?_);refine la27_ ?_)|((with_reducible refine gst_ 39 rfl ?_);refine sa39_ ?_)|((with_reducible refine gld_ 39 rfl ?_);refine la39_ ?_)|((with_reducible refine gst_ 65 rfl ?_);refine sa65_ ?_)|((with_reducible refine gld_ 65 rfl ?_);refine la65_ ?_))
  go_ret; exact ⟨er_, pB_ HB.out⟩

end Go.Proofs.Ytjhgkonacdimfab.PFnExactCmdOk
