-- by a program of this session's, over the kit's words
import Derived.Test.YtjhgkonacdimfabPZFnExactCmdOk
import Derived.Test.YtjhgkonacdimfabPFnExactCmdOkx0
import Derived.Test.YtjhgkonacdimfabPFnExactCmdOkx24
namespace Go.Proofs.Ytjhgkonacdimfab.PFnExactCmdOk
open Go.RowKit Go.Proofs.YtjhgkonacdimfabW.PrintWords Go.Proofs.YtjhgkonacdimfabW.PrintLast Go.Proofs.YtjhgkonacdimfabW.PrintMore Go.Proofs.YtjhgkonacdimfabV Go.Proofs.Ytjhgkonacdimfab.ZFnExactCmdOk
open Go.Value renaming int → I, slice → Y
open Go.IntKind renaming i64 → L
open Aside0 renaming mk → D
open Option renaming bind_eq_some_iff → bs_
attribute [local go_sem] max2_int min2_int max_two min_two max_three min_three max_four min_four   -- for this text's walks alone
set_option linter.unusedVariables false
set_option linter.unusedSimpArgs false

/-! ### laws_eqRule: function 24 -/
def laws_eqRule.f (a0_0 a0_1 a0_2 a0_3 a0_4 a0_5 a0_6 a0_7 a0_8 a0_9 a0_10 a0_11 a0_12 a0_13 a0_14 a0_15 a0_16 a0_17 a0_18 a0_19 a0_20 a1_0 a1_1 a1_2 a1_3 a1_4 a1_5 a1_6 a1_7 a1_8 a1_9 a1_10 a1_11 a1_12 a1_13 a1_14 a1_15 a1_16 a1_17 a1_18 a1_19 a1_20 : Int) : Option (Bool) := if a0_0 = a1_0 then ((laws_eqPrefix.f a0_1 a0_2 a0_3 a0_4 a0_5 a0_6 a1_1 a1_2 a1_3 a1_4 a1_5 a1_6).bind fun t485 => (if t485 = true then ((laws_eqPrefix.f a0_7 a0_8 a0_9 a0_10 a0_11 a0_12 a1_7 a1_8 a1_9 a1_10 a1_11 a1_12).bind fun t486 => (if t486 = true then (if a0_13 = a1_13 then (if a0_14 = a1_14 then (if a0_15 = a1_15 then (if a0_16 = a1_16 then (if a0_17 = a1_17 then (if a0_18 = a1_18 then (if a0_19 = a1_19 then (if a0_20 = a1_20 then (some true) else (some false)) else (some false)) else (some false)) else (some false)) else (some false)) else (some false)) else (some false)) else (some false)) else (some false))) else (some false))) else (some false)
set_option maxHeartbeats 8000000 in
set_option maxRecDepth 100000 in
theorem laws_eqRule.calls (a0_0 a0_1 a0_2 a0_3 a0_4 a0_5 a0_6 a0_7 a0_8 a0_9 a0_10 a0_11 a0_12 a0_13 a0_14 a0_15 a0_16 a0_17 a0_18 a0_19 a0_20 a1_0 a1_1 a1_2 a1_3 a1_4 a1_5 a1_6 a1_7 a1_8 a1_9 a1_10 a1_11 a1_12 a1_13 a1_14 a1_15 a1_16 a1_17 a1_18 a1_19 a1_20 : Int) (r : Bool) (w : World) (h : laws_eqRule.f a0_0 a0_1 a0_2 a0_3 a0_4 a0_5 a0_6 a0_7 a0_8 a0_9 a0_10 a0_11 a0_12 a0_13 a0_14 a0_15 a0_16 a0_17 a0_18 a0_19 a0_20 a1_0 a1_1 a1_2 a1_3 a1_4 a1_5 a1_6 a1_7 a1_8 a1_9 a1_10 a1_11 a1_12 a1_13 a1_14 a1_15 a1_16 a1_17 a1_18 a1_19 a1_20 = some r) :
  Calls Try.prog 24 #[.agg #[I L a0_0,I L a0_1,I L a0_2,I L a0_3,I L a0_4,I L a0_5,I L a0_6,I L a0_7,I L a0_8,I L a0_9,I L a0_10,I L a0_11,I L a0_12,I L a0_13,I L a0_14,I L a0_15,I L a0_16,I L a0_17,I L a0_18,I L a0_19,I L a0_20],.agg #[I L a1_0,I L a1_1,I L a1_2,I L a1_3,I L a1_4,I L a1_5,I L a1_6,I L a1_7,I L a1_8,I L a1_9,I L a1_10,I L a1_11,I L a1_12,I L a1_13,I L a1_14,I L a1_15,I L a1_16,I L a1_17,I L a1_18,I L a1_19,I L a1_20]] w fun e w'=>e=.returned (.bool r)∧Below w.heap.size w w':=by
 have hu39 := Try.underlying39
 have hu37 := Try.underlying37
 have HB := D (Below.refl w.heap.size w)
 have H:(if a0_0=a1_0 then ((laws_eqPrefix.f a0_1 a0_2 a0_3 a0_4 a0_5 a0_6 a1_1 a1_2 a1_3 a1_4 a1_5 a1_6).bind fun Jb=>(if Jb=true then ((laws_eqPrefix.f a0_7 a0_8 a0_9 a0_10 a0_11 a0_12 a1_7 a1_8 a1_9 a1_10 a1_11 a1_12).bind fun Kb=>(if Kb=true then (if a0_13=a1_13 then (if a0_14=a1_14 then (if a0_15=a1_15 then (if a0_16=a1_16 then (if a0_17=a1_17 then (if a0_18=a1_18 then (if a0_19=a1_19 then (if a0_20=a1_20 then (some true) else (some false)) else (some false)) else (some false)) else (some false)) else (some false)) else (some false)) else (some false)) else (some false)) else (some false))) else (some false))) else (some false))=some r:=h
 clear h
 have HU3 := D H
 clear H
 go_enter Try.func24, Try.ntmps24
 go_upto_if 9 with (first|((with_reducible refine gld_ 37 rfl ?_);(first|refine la37o1_ ?_|refine la37o7_ ?_))|((with_reducible refine gld_ 3 rfl ?_);refine lc3_ ?_)|((with_reducible refine gst_ 27 rfl ?_);refine sa27_ ?_)|((with_reducible refine gld_ 27 rfl ?_);refine la27_ ?_)|((with_reducible refine gst_ 39 rfl ?_);refine sa39_ ?_)|((with_reducible refine gld_ 39 rfl ?_);refine la39_ ?_)|((with_reducible refine gate_dst (N:=2) rfl ?_);refine bx_ (N:=2) (cs:=#[I L a0_0,I L a0_1,I L a0_2,I L a0_3,I L a0_4,I L a0_5,I L a0_6,I L a0_7,I L a0_8,I L a0_9,I L a0_10,I L a0_11,I L a0_12,I L a0_13,I L a0_14,I L a0_15,I L a0_16,I L a0_17,I L a0_18,I L a0_19,I L a0_20]) (t:=39) ?_;intro Ma hg w4 hbox hb;have n_:=an_ (below_step (pB_ HB.out) hb)<|an_ (hbox)<|an_ (bg_ hg (pB_ HB.out):w.heap.size≤Ma)<|D (bg_ hg (pB_ HB.out):w.heap.size≤Ma);clear HB;obtain ⟨HB,Ja,Mb,Ob⟩:=n_;clear hb hbox hg)|((with_reducible refine gate_dst (N:=3) rfl ?_);refine bx_ (N:=3) (cs:=#[I L a1_0,I L a1_1,I L a1_2,I L a1_3,I L a1_4,I L a1_5,I L a1_6,I L a1_7,I L a1_8,I L a1_9,I L a1_10,I L a1_11,I L a1_12,I L a1_13,I L a1_14,I L a1_15,I L a1_16,I L a1_17,I L a1_18,I L a1_19,I L a1_20]) (t:=39) ?_;intro Oa hg w5 hbox hb;have n_:=an_ (blk_below (pk_ Ja.out) hb)<|an_ (below_step (pB_ HB.out) hb)<|an_ (hbox)<|an_ (bg_ hg (pB_ HB.out):w.heap.size≤Oa)<|an_ (bg_ hg (pB_ HB.out):w.heap.size≤Oa)<|an_ (nl_ hg (pk_ Ja.out):Ma≠Oa)<|D (by rw [hg];exact Nat.ne_of_gt (blk_lt (pk_ Ja.out)):Oa≠Ma);clear Ja HB;obtain ⟨Ja,HB,Ka,Ub,Xb,Ua,Xa⟩:=n_;clear hb hbox hg;(try have:=Ua.out);(try have:=Xa.out)))
 have H := HU3.out
 clear HU3
 by_cases c9 : a0_0 = a1_0
 ·rw [if_pos c9] at H
  have c9b0:(a0_0 == a1_0)=true:=beq_iff_eq.mpr c9;have c9b1:(a0_0 != a1_0)=false:=bne_eq_false_iff_eq.mpr c9;clear c9;refine rw_ c9b0 ?_;obtain ⟨Jb,A100,H⟩:=bs_.mp H;(try dsimp only at H);have A10:=D A100;clear A100;have HU11:=D H;clear H;(try have:=Ua.out);(try have:=Xa.out)
  go_upto_if 15 with (first|((with_reducible refine gld_ 37 rfl ?_);(first|refine la37o1_ ?_|refine la37o7_ ?_))|((with_reducible refine gld_ 3 rfl ?_);refine lc3_ ?_)|((with_reducible refine gst_ 27 rfl ?_);refine sa27_ ?_)|((with_reducible refine gld_ 27 rfl ?_);refine la27_ ?_)|((with_reducible refine gst_ 39 rfl ?_);refine sa39_ ?_)|((with_reducible refine gld_ 39 rfl ?_);refine la39_ ?_)|((with_reducible refine gate_callee (f:=39) rfl ?_);refine goesL_ (some 14) rfl rfl Try.func39 (by kernel_rfl) rfl #[.agg #[I L a0_1,I L a0_2,I L a0_3,I L a0_4,I L a0_5,I L a0_6],.agg #[I L a1_1,I L a1_2,I L a1_3,I L a1_4,I L a1_5,I L a1_6]] rfl Z6 ?_;(with_reducible refine (laws_eqPrefix.calls a0_1 a0_2 a0_3 a0_4 a0_5 a0_6 a1_1 a1_2 a1_3 a1_4 a1_5 a1_6 Jb _ A10.out).mono ?_);rintro e w15 ⟨rfl,hb⟩;refine ⟨_,rfl,?_⟩;have n_:=an_ (blk_below (pk_ Ja.out) hb)<|an_ (blk_below (pk_ Ka.out) hb)<|D (below_step (pB_ HB.out) hb);clear Ja Ka HB;obtain ⟨Ja,Ka,HB⟩:=n_;(try clear hb)))
  have H := HU11.out; clear HU11
  by_cases c16 : Jb = true
  ·subst c16
   rw [if_pos rfl] at H;obtain ⟨Kb,A170,H⟩:=bs_.mp H;(try dsimp only at H);have A17:=D A170;clear A170;have HU18:=D H;clear H;(try have:=Ua.out);(try have:=Xa.out)
   go_upto_if 21 with (first|((with_reducible refine gld_ 37 rfl ?_);(first|refine la37o1_ ?_|refine la37o7_ ?_))|((with_reducible refine gld_ 3 rfl ?_);refine lc3_ ?_)|((with_reducible refine gst_ 27 rfl ?_);refine sa27_ ?_)|((with_reducible refine gld_ 27 rfl ?_);refine la27_ ?_)|((with_reducible refine gst_ 39 rfl ?_);refine sa39_ ?_)|((with_reducible refine gld_ 39 rfl ?_);refine la39_ ?_)|((with_reducible refine gate_callee (f:=39) rfl ?_);refine goesL_ (some 20) rfl rfl Try.func39 (by kernel_rfl) rfl #[.agg #[I L a0_7,I L a0_8,I L a0_9,I L a0_10,I L a0_11,I L a0_12],.agg #[I L a1_7,I L a1_8,I L a1_9,I L a1_10,I L a1_11,I L a1_12]] rfl Z6 ?_;(with_reducible refine (laws_eqPrefix.calls a0_7 a0_8 a0_9 a0_10 a0_11 a0_12 a1_7 a1_8 a1_9 a1_10 a1_11 a1_12 Kb _ A17.out).mono ?_);rintro e w22 ⟨rfl,hb⟩;refine ⟨_,rfl,?_⟩;have n_:=an_ (blk_below (pk_ Ja.out) hb)<|an_ (blk_below (pk_ Ka.out) hb)<|D (below_step (pB_ HB.out) hb);clear Ja Ka HB;obtain ⟨Ja,Ka,HB⟩:=n_;(try clear hb)))
   have H := HU18.out; clear HU18
   by_cases c23 : Kb = true
   ·subst c23
    rw [if_pos rfl] at H
    by_cases c24 : a0_13 = a1_13
    ·rw [if_pos c24] at H
     have c24b0:(a0_13 == a1_13)=true:=beq_iff_eq.mpr c24;have c24b1:(a0_13 != a1_13)=false:=bne_eq_false_iff_eq.mpr c24;clear c24;refine rw_ c24b0 ?_
     by_cases c25 : a0_14 = a1_14
     ·rw [if_pos c25] at H
      have c25b0 : (a0_14 == a1_14) = true := beq_iff_eq.mpr c25; have c25b1 : (a0_14 != a1_14) = false := bne_eq_false_iff_eq.mpr c25; clear c25
      by_cases c26 : a0_15 = a1_15
      ·rw [if_pos c26] at H
       have c26b0 : (a0_15 == a1_15) = true := beq_iff_eq.mpr c26; have c26b1 : (a0_15 != a1_15) = false := bne_eq_false_iff_eq.mpr c26; clear c26
       by_cases c27 : a0_16 = a1_16
       ·rw [if_pos c27] at H
        have c27b0 : (a0_16 == a1_16) = true := beq_iff_eq.mpr c27; have c27b1 : (a0_16 != a1_16) = false := bne_eq_false_iff_eq.mpr c27; clear c27
        by_cases c28 : a0_17 = a1_17
        ·rw [if_pos c28] at H
         have c28b0 : (a0_17 == a1_17) = true := beq_iff_eq.mpr c28; have c28b1 : (a0_17 != a1_17) = false := bne_eq_false_iff_eq.mpr c28; clear c28
         by_cases c29 : a0_18 = a1_18
         ·rw [if_pos c29] at H
          have c29b0 : (a0_18 == a1_18) = true := beq_iff_eq.mpr c29; have c29b1 : (a0_18 != a1_18) = false := bne_eq_false_iff_eq.mpr c29; clear c29
          by_cases c30 : a0_19 = a1_19
          ·rw [if_pos c30] at H
           have c30b0 : (a0_19 == a1_19) = true := beq_iff_eq.mpr c30; have c30b1 : (a0_19 != a1_19) = false := bne_eq_false_iff_eq.mpr c30; clear c30
           by_cases c31 : a0_20 = a1_20
           ·rw [if_pos c31] at H
            have c31b0:(a0_20 == a1_20)=true:=beq_iff_eq.mpr c31;have c31b1:(a0_20 != a1_20)=false:=bne_eq_false_iff_eq.mpr c31;clear c31;obtain rfl:=Option.some.inj H;(try have:=Ua.out);(try have:=Xa.out)
            go_wp2_with (first|((with_reducible refine gld_ 37 rfl ?_);(first|refine la37o1_ ?_|refine la37o7_ ?_))|((with_reducible refine gld_ 3 rfl ?_);refine lc3_ ?_)|((with_reducible refine gst_ 27 rfl ?_);refine sa27_ ?_)|((with_reducible refine gld_ 27 rfl ?_);refine la27_ ?_)|((with_reducible refine gst_ 39 rfl ?_);refine sa39_ ?_)|((with_reducible refine gld_ 39 rfl ?_);refine la39_ ?_))
            go_ret; exact ⟨er_, pB_ HB.out⟩
           ·rw [if_neg c31] at H
            have c31b0:(a0_20 == a1_20)=false:=beq_eq_false_iff_ne.mpr c31;have c31b1:(a0_20 != a1_20)=true:=bne_iff_ne.mpr c31;obtain rfl:=Option.some.inj H;(try have:=Ua.out);(try have:=Xa.out)
            go_wp2_with (first|((with_reducible refine gld_ 37 rfl ?_);(first|refine la37o1_ ?_|refine la37o7_ ?_))|((with_reducible refine gld_ 3 rfl ?_);refine lc3_ ?_)|((with_reducible refine gst_ 27 rfl ?_);refine sa27_ ?_)|((with_reducible refine gld_ 27 rfl ?_);refine la27_ ?_)|((with_reducible refine gst_ 39 rfl ?_);refine sa39_ ?_)|((with_reducible refine gld_ 39 rfl ?_);refine la39_ ?_))
            go_ret; exact ⟨er_, pB_ HB.out⟩
          ·rw [if_neg c30] at H
           have c30b0:(a0_19 == a1_19)=false:=beq_eq_false_iff_ne.mpr c30;have c30b1:(a0_19 != a1_19)=true:=bne_iff_ne.mpr c30;obtain rfl:=Option.some.inj H;(try have:=Ua.out);(try have:=Xa.out)
           go_wp2_with (first|((with_reducible refine gld_ 37 rfl ?_);(first|refine la37o1_ ?_|refine la37o7_ ?_))|((with_reducible refine gld_ 3 rfl ?_);refine lc3_ ?_)|((with_reducible refine gst_ 27 rfl ?_);refine sa27_ ?_)|((with_reducible refine gld_ 27 rfl ?_);refine la27_ ?_)|((with_reducible refine gst_ 39 rfl ?_);refine sa39_ ?_)|((with_reducible refine gld_ 39 rfl ?_);refine la39_ ?_))
           go_ret; exact ⟨er_, pB_ HB.out⟩
         ·rw [if_neg c29] at H
          have c29b0:(a0_18 == a1_18)=false:=beq_eq_false_iff_ne.mpr c29;have c29b1:(a0_18 != a1_18)=true:=bne_iff_ne.mpr c29;obtain rfl:=Option.some.inj H;(try have:=Ua.out);(try have:=Xa.out)
          go_wp2_with (first|((with_reducible refine gld_ 37 rfl ?_);(first|refine la37o1_ ?_|refine la37o7_ ?_))|((with_reducible refine gld_ 3 rfl ?_);refine lc3_ ?_)|((with_reducible refine gst_ 27 rfl ?_);refine sa27_ ?_)|((with_reducible refine gld_ 27 rfl ?_);refine la27_ ?_)|((with_reducible refine gst_ 39 rfl ?_);refine sa39_ ?_)|((with_reducible refine gld_ 39 rfl ?_);refine la39_ ?_))
          go_ret; exact ⟨er_, pB_ HB.out⟩
        ·rw [if_neg c28] at H
         have c28b0:(a0_17 == a1_17)=false:=beq_eq_false_iff_ne.mpr c28;have c28b1:(a0_17 != a1_17)=true:=bne_iff_ne.mpr c28;obtain rfl:=Option.some.inj H;(try have:=Ua.out);(try have:=Xa.out)
         go_wp2_with (first|((with_reducible refine gld_ 37 rfl ?_);(first|refine la37o1_ ?_|refine la37o7_ ?_))|((with_reducible refine gld_ 3 rfl ?_);refine lc3_ ?_)|((with_reducible refine gst_ 27 rfl ?_);refine sa27_ ?_)|((with_reducible refine gld_ 27 rfl ?_);refine la27_ ?_)|((with_reducible refine gst_ 39 rfl ?_);refine sa39_ ?_)|((with_reducible refine gld_ 39 rfl ?_);refine la39_ ?_))
         go_ret; exact ⟨er_, pB_ HB.out⟩
       ·rw [if_neg c27] at H
        have c27b0:(a0_16 == a1_16)=false:=beq_eq_false_iff_ne.mpr c27;have c27b1:(a0_16 != a1_16)=true:=bne_iff_ne.mpr c27;obtain rfl:=Option.some.inj H;(try have:=Ua.out);(try have:=Xa.out)
        go_wp2_with (first|((with_reducible refine gld_ 37 rfl ?_);(first|refine la37o1_ ?_|refine la37o7_ ?_))|((with_reducible refine gld_ 3 rfl ?_);refine lc3_ ?_)|((with_reducible refine gst_ 27 rfl ?_);refine sa27_ ?_)|((with_reducible refine gld_ 27 rfl ?_);refine la27_ ?_)|((with_reducible refine gst_ 39 rfl ?_);refine sa39_ ?_)|((with_reducible refine gld_ 39 rfl ?_);refine la39_ ?_))
        go_ret; exact ⟨er_, pB_ HB.out⟩
      ·rw [if_neg c26] at H
       have c26b0:(a0_15 == a1_15)=false:=beq_eq_false_iff_ne.mpr c26;have c26b1:(a0_15 != a1_15)=true:=bne_iff_ne.mpr c26;obtain rfl:=Option.some.inj H;(try have:=Ua.out);(try have:=Xa.out)
       go_wp2_with (first|((with_reducible refine gld_ 37 rfl ?_);(first|refine la37o1_ ?_|refine la37o7_ ?_))|((with_reducible refine gld_ 3 rfl ?_);refine lc3_ ?_)|((with_reducible refine gst_ 27 rfl ?_);refine sa27_ ?_)|((with_reducible refine gld_ 27 rfl ?_);refine la27_ ?_)|((with_reducible refine gst_ 39 rfl ?_);refine sa39_ ?_)|((with_reducible refine gld_ 39 rfl ?_);refine la39_ ?_))
       go_ret; exact ⟨er_, pB_ HB.out⟩
     ·rw [if_neg c25] at H
      have c25b0:(a0_14 == a1_14)=false:=beq_eq_false_iff_ne.mpr c25;have c25b1:(a0_14 != a1_14)=true:=bne_iff_ne.mpr c25;obtain rfl:=Option.some.inj H;(try have:=Ua.out);(try have:=Xa.out)
      go_wp2_with (first|((with_reducible refine gld_ 37 rfl ?_);(first|refine la37o1_ ?_|refine la37o7_ ?_))|((with_reducible refine gld_ 3 rfl ?_);refine lc3_ ?_)|((with_reducible refine gst_ 27 rfl ?_);refine sa27_ ?_)|((with_reducible refine gld_ 27 rfl ?_);refine la27_ ?_)|((with_reducible refine gst_ 39 rfl ?_);refine sa39_ ?_)|((with_reducible refine gld_ 39 rfl ?_);refine la39_ ?_))
      go_ret; exact ⟨er_, pB_ HB.out⟩
    ·rw [if_neg c24] at H
     have c24b0:(a0_13 == a1_13)=false:=beq_eq_false_iff_ne.mpr c24;have c24b1:(a0_13 != a1_13)=true:=bne_iff_ne.mpr c24;refine rw_ c24b0 ?_;obtain rfl:=Option.some.inj H;(try have:=Ua.out);(try have:=Xa.out)
     go_wp2_with (first|((with_reducible refine gld_ 37 rfl ?_);(first|refine la37o1_ ?_|refine la37o7_ ?_))|((with_reducible refine gld_ 3 rfl ?_);refine lc3_ ?_)|((with_reducible refine gst_ 27 rfl ?_);refine sa27_ ?_)|((with_reducible refine gld_ 27 rfl ?_);refine la27_ ?_)|((with_reducible refine gst_ 39 rfl ?_);refine sa39_ ?_)|((with_reducible refine gld_ 39 rfl ?_);refine la39_ ?_))
     go_ret; exact ⟨er_, pB_ HB.out⟩
   ·replace c23 := Bool.eq_false_iff.mpr c23
    subst c23; rw [if_neg (show ¬ (false = true) by decide)] at H; obtain rfl := Option.some.inj H
    go_wp2_with (first|((with_reducible refine gld_ 37 rfl ?_);(first|refine la37o1_ ?_|refine la37o7_ ?_))|((with_reducible refine gld_ 3 rfl ?_);refine lc3_ ?_)|((with_reducible refine gst_ 27 rfl ?_);refine sa27_ ?_)|((with_reducible refine gld_ 27 rfl ?_);refine la27_ ?_)|((with_reducible refine gst_ 39 rfl ?_);refine sa39_ ?_)|((with_reducible refine gld_ 39 rfl ?_);refine la39_ ?_))
    go_ret; exact ⟨er_, pB_ HB.out⟩
  ·replace c16 := Bool.eq_false_iff.mpr c16
   subst c16; rw [if_neg (show ¬ (false = true) by decide)] at H; obtain rfl := Option.some.inj H
   go_wp2_with (first|((with_reducible refine gld_ 37 rfl ?_);(first|refine la37o1_ ?_|refine la37o7_ ?_))|((with_reducible refine gld_ 3 rfl ?_);refine lc3_ ?_)|((with_reducible refine gst_ 27 rfl ?_);refine sa27_ ?_)|((with_reducible refine gld_ 27 rfl ?_);refine la27_ ?_)|((with_reducible refine gst_ 39 rfl ?_);refine sa39_ ?_)|((with_reducible refine gld_ 39 rfl ?_);refine la39_ ?_))
   go_ret; exact ⟨er_, pB_ HB.out⟩
 ·rw [if_neg c9] at H
  have c9b0:(a0_0 == a1_0)=false:=beq_eq_false_iff_ne.mpr c9;have c9b1:(a0_0 != a1_0)=true:=bne_iff_ne.mpr c9;refine rw_ c9b0 ?_;obtain rfl:=Option.some.inj H
  go_wp2_with (first|((with_reducible refine gld_ 37 rfl ?_);(first|refine la37o1_ ?_|refine la37o7_ ?_))|((with_reducible refine gld_ 3 rfl ?_);refine lc3_ ?_)|((with_reducible refine gst_ 27 rfl ?_);refine sa27_ ?_)|((with_reducible refine gld_ 27 rfl ?_);refine la27_ ?_)|((with_reducible refine gst_ 39 rfl ?_);refine sa39_ ?_)|((with_reducible refine gld_ 39 rfl ?_);refine la39_ ?_))
  go_ret; exact ⟨er_, pB_ HB.out⟩

end Go.Proofs.Ytjhgkonacdimfab.PFnExactCmdOk
