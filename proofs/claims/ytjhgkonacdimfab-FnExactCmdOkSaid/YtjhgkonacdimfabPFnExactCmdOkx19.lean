-- by a program of this session's, over the kit's words
import Derived.Test.YtjhgkonacdimfabPZFnExactCmdOk
import Derived.Test.YtjhgkonacdimfabPFnExactCmdOkx0
import Derived.Test.YtjhgkonacdimfabPFnExactCmdOkx16
import Derived.Test.YtjhgkonacdimfabPFnExactCmdOkx18
namespace Go.Proofs.Ytjhgkonacdimfab.PFnExactCmdOk
open Go.RowKit Go.Proofs.YtjhgkonacdimfabW.PrintWords Go.Proofs.YtjhgkonacdimfabW.PrintLast Go.Proofs.YtjhgkonacdimfabW.PrintMore Go.Proofs.YtjhgkonacdimfabV Go.Proofs.Ytjhgkonacdimfab.ZFnExactCmdOk
open Go.Value renaming int → I, slice → Y
open Go.IntKind renaming i64 → L
open Aside0 renaming mk → D
open Option renaming bind_eq_some_iff → bs_
attribute [local go_sem] max2_int min2_int max_two min_two max_three min_three max_four min_four   -- for this text's walks alone
set_option linter.unusedVariables false
set_option linter.unusedSimpArgs false

/-! ### impl_RuleOk: function 21 -/
def impl_RuleOk.j0 : Nat → Bool → Int → Int → Int → Int → Int → Int → Int → Int → Int → Int → Int → Int → Int → Int → Int → Int → Int → Int → Int → Int → Int → Option (Bool)
 | 0, _, _, _, _, _, _, _, _, _, _, _, _, _, _, _, _, _, _, _, _, _, _ => none
 | k + 1,x40,x424000,x424001,x424002,x424003,x424004,x424005,x424006,x424007,x424008,x424009,x424010,x424011,x424012,x424013,x424014,x424015,x424016,x424017,x424018,x424019,x424020=>if x40=true then (some false) else ((impl_within.f x424018 1 8).bind fun t430=>(if t430=true then ((impl_within.f x424019 1 10).bind fun t431=>(if t431=true then ((impl_within.f x424020 1 8).bind fun t432=>(some t432)) else (some false))) else (some false)))
def impl_RuleOk.f (k : Nat) (a0_0 a0_1 a0_2 a0_3 a0_4 a0_5 a0_6 a0_7 a0_8 a0_9 a0_10 a0_11 a0_12 a0_13 a0_14 a0_15 a0_16 a0_17 a0_18 a0_19 a0_20 : Int) : Option (Bool) := (impl_within.f a0_0 1 9999).bind fun t424 => (if t424 = true then ((impl_PrefixOk.f k a0_1 a0_2 a0_3 a0_4 a0_5 a0_6).bind fun t425 => (if t425 = true then ((impl_PrefixOk.f k a0_7 a0_8 a0_9 a0_10 a0_11 a0_12).bind fun t426 => (if t426 = true then ((impl_within.f a0_13 (-1) 255).bind fun t427 => (if t427 = true then ((impl_isRange.f a0_14 a0_15).bind fun t428 => (if t428 = true then ((impl_isRange.f a0_16 a0_17).bind fun t429 => (impl_RuleOk.j0 k (!t429) a0_0 a0_1 a0_2 a0_3 a0_4 a0_5 a0_6 a0_7 a0_8 a0_9 a0_10 a0_11 a0_12 a0_13 a0_14 a0_15 a0_16 a0_17 a0_18 a0_19 a0_20)) else (impl_RuleOk.j0 k true a0_0 a0_1 a0_2 a0_3 a0_4 a0_5 a0_6 a0_7 a0_8 a0_9 a0_10 a0_11 a0_12 a0_13 a0_14 a0_15 a0_16 a0_17 a0_18 a0_19 a0_20))) else (impl_RuleOk.j0 k true a0_0 a0_1 a0_2 a0_3 a0_4 a0_5 a0_6 a0_7 a0_8 a0_9 a0_10 a0_11 a0_12 a0_13 a0_14 a0_15 a0_16 a0_17 a0_18 a0_19 a0_20))) else (impl_RuleOk.j0 k true a0_0 a0_1 a0_2 a0_3 a0_4 a0_5 a0_6 a0_7 a0_8 a0_9 a0_10 a0_11 a0_12 a0_13 a0_14 a0_15 a0_16 a0_17 a0_18 a0_19 a0_20))) else (impl_RuleOk.j0 k true a0_0 a0_1 a0_2 a0_3 a0_4 a0_5 a0_6 a0_7 a0_8 a0_9 a0_10 a0_11 a0_12 a0_13 a0_14 a0_15 a0_16 a0_17 a0_18 a0_19 a0_20))) else (impl_RuleOk.j0 k true a0_0 a0_1 a0_2 a0_3 a0_4 a0_5 a0_6 a0_7 a0_8 a0_9 a0_10 a0_11 a0_12 a0_13 a0_14 a0_15 a0_16 a0_17 a0_18 a0_19 a0_20))
set_option maxHeartbeats 8000000 in
set_option maxRecDepth 100000 in
theorem impl_RuleOk.calls (k : Nat) (a0_0 a0_1 a0_2 a0_3 a0_4 a0_5 a0_6 a0_7 a0_8 a0_9 a0_10 a0_11 a0_12 a0_13 a0_14 a0_15 a0_16 a0_17 a0_18 a0_19 a0_20 : Int) (r : Bool) (w : World) (h : impl_RuleOk.f k a0_0 a0_1 a0_2 a0_3 a0_4 a0_5 a0_6 a0_7 a0_8 a0_9 a0_10 a0_11 a0_12 a0_13 a0_14 a0_15 a0_16 a0_17 a0_18 a0_19 a0_20 = some r) :
  Calls Try.prog 21 #[.agg #[I L a0_0,I L a0_1,I L a0_2,I L a0_3,I L a0_4,I L a0_5,I L a0_6,I L a0_7,I L a0_8,I L a0_9,I L a0_10,I L a0_11,I L a0_12,I L a0_13,I L a0_14,I L a0_15,I L a0_16,I L a0_17,I L a0_18,I L a0_19,I L a0_20]] w fun e w'=>e=.returned (.bool r)∧Below w.heap.size w w':=by
 have hu39 := Try.underlying39
 have hu37 := Try.underlying37
 have HB := D (Below.refl w.heap.size w)
 have H:((impl_within.f a0_0 1 9999).bind fun Ua=>(if Ua=true then ((impl_PrefixOk.f k a0_1 a0_2 a0_3 a0_4 a0_5 a0_6).bind fun Xa=>(if Xa=true then ((impl_PrefixOk.f k a0_7 a0_8 a0_9 a0_10 a0_11 a0_12).bind fun Jb=>(if Jb=true then ((impl_within.f a0_13 (-1) 255).bind fun Kb=>(if Kb=true then ((impl_isRange.f a0_14 a0_15).bind fun Mb=>(if Mb=true then ((impl_isRange.f a0_16 a0_17).bind fun Ma=>(impl_RuleOk.j0 k (!Ma) a0_0 a0_1 a0_2 a0_3 a0_4 a0_5 a0_6 a0_7 a0_8 a0_9 a0_10 a0_11 a0_12 a0_13 a0_14 a0_15 a0_16 a0_17 a0_18 a0_19 a0_20)) else (impl_RuleOk.j0 k true a0_0 a0_1 a0_2 a0_3 a0_4 a0_5 a0_6 a0_7 a0_8 a0_9 a0_10 a0_11 a0_12 a0_13 a0_14 a0_15 a0_16 a0_17 a0_18 a0_19 a0_20))) else (impl_RuleOk.j0 k true a0_0 a0_1 a0_2 a0_3 a0_4 a0_5 a0_6 a0_7 a0_8 a0_9 a0_10 a0_11 a0_12 a0_13 a0_14 a0_15 a0_16 a0_17 a0_18 a0_19 a0_20))) else (impl_RuleOk.j0 k true a0_0 a0_1 a0_2 a0_3 a0_4 a0_5 a0_6 a0_7 a0_8 a0_9 a0_10 a0_11 a0_12 a0_13 a0_14 a0_15 a0_16 a0_17 a0_18 a0_19 a0_20))) else (impl_RuleOk.j0 k true a0_0 a0_1 a0_2 a0_3 a0_4 a0_5 a0_6 a0_7 a0_8 a0_9 a0_10 a0_11 a0_12 a0_13 a0_14 a0_15 a0_16 a0_17 a0_18 a0_19 a0_20))) else (impl_RuleOk.j0 k true a0_0 a0_1 a0_2 a0_3 a0_4 a0_5 a0_6 a0_7 a0_8 a0_9 a0_10 a0_11 a0_12 a0_13 a0_14 a0_15 a0_16 a0_17 a0_18 a0_19 a0_20)))=some r:=h
 clear h
 have HC2 := D H
 clear H
 go_enter Try.func21, Try.ntmps21
 go_upto_region 1 with (first|((with_reducible refine gld_ 37 rfl ?_);(first|refine la37o1_ ?_|refine la37o7_ ?_))|((with_reducible refine gld_ 3 rfl ?_);refine lc3_ ?_)|((with_reducible refine gst_ 27 rfl ?_);refine sa27_ ?_)|((with_reducible refine gld_ 27 rfl ?_);refine la27_ ?_)|((with_reducible refine gst_ 39 rfl ?_);refine sa39_ ?_)|((with_reducible refine gld_ 39 rfl ?_);refine la39_ ?_)|((with_reducible refine gate_dst (N:=1) rfl ?_);refine bx_ (N:=1) (cs:=#[I L a0_0,I L a0_1,I L a0_2,I L a0_3,I L a0_4,I L a0_5,I L a0_6,I L a0_7,I L a0_8,I L a0_9,I L a0_10,I L a0_11,I L a0_12,I L a0_13,I L a0_14,I L a0_15,I L a0_16,I L a0_17,I L a0_18,I L a0_19,I L a0_20]) (t:=39) ?_;intro Ka hg w3 hbox hb;have n_:=an_ (below_step (pB_ HB.out) hb)<|an_ (hbox)<|an_ (bg_ hg (pB_ HB.out):w.heap.size≤Ka)<|D (bg_ hg (pB_ HB.out):w.heap.size≤Ka);clear HB;obtain ⟨HB,Ja,Jb4,Kb4⟩:=n_;clear hb hbox hg))
 (try simp only [Act.put, List.setIfInBounds_toArray, List.set_cons_zero, List.set_cons_succ])
 go_cut [40] (fun v40 wc=>∃ (kq:Nat) (Oa:Bool),v40=.bool Oa∧Aside0 (impl_RuleOk.j0 kq Oa a0_0 a0_1 a0_2 a0_3 a0_4 a0_5 a0_6 a0_7 a0_8 a0_9 a0_10 a0_11 a0_12 a0_13 a0_14 a0_15 a0_16 a0_17 a0_18 a0_19 a0_20=some r)∧Aside0 (kq≤k)∧Aside0 (wc.heap[Ka]?=some (.cells #[I L a0_0,I L a0_1,I L a0_2,I L a0_3,I L a0_4,I L a0_5,I L a0_6,I L a0_7,I L a0_8,I L a0_9,I L a0_10,I L a0_11,I L a0_12,I L a0_13,I L a0_14,I L a0_15,I L a0_16,I L a0_17,I L a0_18,I L a0_19,I L a0_20] 39 (0,0)))∧Aside0 (Below w.heap.size w wc))
 case first =>
  have H := HC2.out; clear HC2; obtain ⟨Ua, A40, H⟩ := bs_.mp H; (try dsimp only at H); have A4 := D A40; clear A40
  by_cases c5 : Ua = true
  ·subst c5
   rw [if_pos rfl] at H; obtain ⟨Xa, A60, H⟩ := bs_.mp H; (try dsimp only at H); have A6 := D A60; clear A60
   by_cases c7 : Xa = true
   ·subst c7
    rw [if_pos rfl] at H; obtain ⟨Jb, A80, H⟩ := bs_.mp H; (try dsimp only at H); have A8 := D A80; clear A80
    by_cases c9 : Jb = true
    ·subst c9
     rw [if_pos rfl] at H; obtain ⟨Kb, A100, H⟩ := bs_.mp H; (try dsimp only at H); have A10 := D A100; clear A100
     by_cases c11 : Kb = true
     ·subst c11
      rw [if_pos rfl] at H; obtain ⟨Mb, A120, H⟩ := bs_.mp H; (try dsimp only at H); have A12 := D A120; clear A120
      by_cases c13 : Mb = true
      ·subst c13
       rw [if_pos rfl] at H;obtain ⟨Ma,A140,H⟩:=bs_.mp H;(try dsimp only at H);have A14:=D A140;clear A140;have H':=D H;clear H
       go_wp2_with (first|((with_reducible refine gld_ 37 rfl ?_);(first|refine la37o1_ ?_|refine la37o7_ ?_))|((with_reducible refine gld_ 3 rfl ?_);refine lc3_ ?_)|((with_reducible refine gst_ 27 rfl ?_);refine sa27_ ?_)|((with_reducible refine gld_ 27 rfl ?_);refine la27_ ?_)|((with_reducible refine gst_ 39 rfl ?_);refine sa39_ ?_)|((with_reducible refine gld_ 39 rfl ?_);refine la39_ ?_)|((with_reducible refine gate_callee (f:=18) rfl ?_);refine goesL_ (some 5) rfl rfl Try.func18 (by kernel_rfl) rfl #[I L a0_0,I L 1,I L 9999] rfl Z6 ?_;(with_reducible refine (impl_within.calls a0_0 1 9999 true _ A4.out).mono ?_);rintro e w' ⟨rfl,⟨nd,rfl⟩⟩;refine ⟨_,rfl,?_⟩)|(go_at_call 34;(with_reducible refine (impl_PrefixOk.calls k a0_1 a0_2 a0_3 a0_4 a0_5 a0_6 true _ A6.out).mono ?_);rintro e w16 ⟨rfl,hb⟩;have n_:=an_ (blk_below (pk_ Ja.out) hb)<|D (below_step (pB_ HB.out) hb);clear Ja HB;obtain ⟨Ja,HB⟩:=n_;(try clear hb))|(go_at_call 34;(with_reducible refine (impl_PrefixOk.calls k a0_7 a0_8 a0_9 a0_10 a0_11 a0_12 true _ A8.out).mono ?_);rintro e w18 ⟨rfl,hb⟩;have n_:=an_ (blk_below (pk_ Ja.out) hb)<|D (below_step (pB_ HB.out) hb);clear Ja HB;obtain ⟨Ja,HB⟩:=n_;(try clear hb))|(go_at_call 18;(with_reducible refine (impl_within.calls a0_13 (-1) 255 true _ A10.out).mono ?_);rintro e w' ⟨rfl,⟨nd,rfl⟩⟩)|(go_at_call 35;(with_reducible refine (impl_isRange.calls a0_14 a0_15 true _ A12.out).mono ?_);rintro e w' ⟨rfl,⟨nd,rfl⟩⟩)|(go_at_call 35;(with_reducible refine (impl_isRange.calls a0_16 a0_17 Ma _ A14.out).mono ?_);rintro e w' ⟨rfl,⟨nd,rfl⟩⟩))
       go_meet
       case rel => exact ⟨_, (!Ma), Z11, H', ⟨by first | omega | exact Nat.le_refl _⟩, ⟨pk_ Ja.out⟩, ⟨pB_ HB.out⟩⟩
      ·replace c13 := Bool.eq_false_iff.mpr c13
       subst c13;rw [if_neg (show ¬ (false=true) by decide)] at H;have H':=D H;clear H
       go_wp2_with (first|((with_reducible refine gld_ 37 rfl ?_);(first|refine la37o1_ ?_|refine la37o7_ ?_))|((with_reducible refine gld_ 3 rfl ?_);refine lc3_ ?_)|((with_reducible refine gst_ 27 rfl ?_);refine sa27_ ?_)|((with_reducible refine gld_ 27 rfl ?_);refine la27_ ?_)|((with_reducible refine gst_ 39 rfl ?_);refine sa39_ ?_)|((with_reducible refine gld_ 39 rfl ?_);refine la39_ ?_)|((with_reducible refine gate_callee (f:=18) rfl ?_);refine goesL_ (some 5) rfl rfl Try.func18 (by kernel_rfl) rfl #[I L a0_0,I L 1,I L 9999] rfl Z6 ?_;(with_reducible refine (impl_within.calls a0_0 1 9999 true _ A4.out).mono ?_);rintro e w' ⟨rfl,⟨nd,rfl⟩⟩;refine ⟨_,rfl,?_⟩)|(go_at_call 34;(with_reducible refine (impl_PrefixOk.calls k a0_1 a0_2 a0_3 a0_4 a0_5 a0_6 true _ A6.out).mono ?_);rintro e w21 ⟨rfl,hb⟩;have n_:=an_ (blk_below (pk_ Ja.out) hb)<|D (below_step (pB_ HB.out) hb);clear Ja HB;obtain ⟨Ja,HB⟩:=n_;(try clear hb))|(go_at_call 34;(with_reducible refine (impl_PrefixOk.calls k a0_7 a0_8 a0_9 a0_10 a0_11 a0_12 true _ A8.out).mono ?_);rintro e w23 ⟨rfl,hb⟩;have n_:=an_ (blk_below (pk_ Ja.out) hb)<|D (below_step (pB_ HB.out) hb);clear Ja HB;obtain ⟨Ja,HB⟩:=n_;(try clear hb))|(go_at_call 18;(with_reducible refine (impl_within.calls a0_13 (-1) 255 true _ A10.out).mono ?_);rintro e w' ⟨rfl,⟨nd,rfl⟩⟩)|(go_at_call 35;(with_reducible refine (impl_isRange.calls a0_14 a0_15 false _ A12.out).mono ?_);rintro e w' ⟨rfl,⟨nd,rfl⟩⟩))
       go_meet
       case rel => exact ⟨_, (true), Z11, H', ⟨by first | omega | exact Nat.le_refl _⟩, ⟨pk_ Ja.out⟩, ⟨pB_ HB.out⟩⟩
     ·replace c11 := Bool.eq_false_iff.mpr c11
      subst c11;rw [if_neg (show ¬ (false=true) by decide)] at H;have H':=D H;clear H
      go_wp2_with (first|((with_reducible refine gld_ 37 rfl ?_);(first|refine la37o1_ ?_|refine la37o7_ ?_))|((with_reducible refine gld_ 3 rfl ?_);refine lc3_ ?_)|((with_reducible refine gst_ 27 rfl ?_);refine sa27_ ?_)|((with_reducible refine gld_ 27 rfl ?_);refine la27_ ?_)|((with_reducible refine gst_ 39 rfl ?_);refine sa39_ ?_)|((with_reducible refine gld_ 39 rfl ?_);refine la39_ ?_)|((with_reducible refine gate_callee (f:=18) rfl ?_);refine goesL_ (some 5) rfl rfl Try.func18 (by kernel_rfl) rfl #[I L a0_0,I L 1,I L 9999] rfl Z6 ?_;(with_reducible refine (impl_within.calls a0_0 1 9999 true _ A4.out).mono ?_);rintro e w' ⟨rfl,⟨nd,rfl⟩⟩;refine ⟨_,rfl,?_⟩)|(go_at_call 34;(with_reducible refine (impl_PrefixOk.calls k a0_1 a0_2 a0_3 a0_4 a0_5 a0_6 true _ A6.out).mono ?_);rintro e w26 ⟨rfl,hb⟩;have n_:=an_ (blk_below (pk_ Ja.out) hb)<|D (below_step (pB_ HB.out) hb);clear Ja HB;obtain ⟨Ja,HB⟩:=n_;(try clear hb))|(go_at_call 34;(with_reducible refine (impl_PrefixOk.calls k a0_7 a0_8 a0_9 a0_10 a0_11 a0_12 true _ A8.out).mono ?_);rintro e w28 ⟨rfl,hb⟩;have n_:=an_ (blk_below (pk_ Ja.out) hb)<|D (below_step (pB_ HB.out) hb);clear Ja HB;obtain ⟨Ja,HB⟩:=n_;(try clear hb))|(go_at_call 18;(with_reducible refine (impl_within.calls a0_13 (-1) 255 false _ A10.out).mono ?_);rintro e w' ⟨rfl,⟨nd,rfl⟩⟩))
      go_meet
      case rel => exact ⟨_, (true), Z11, H', ⟨by first | omega | exact Nat.le_refl _⟩, ⟨pk_ Ja.out⟩, ⟨pB_ HB.out⟩⟩
    ·replace c9 := Bool.eq_false_iff.mpr c9
     subst c9;rw [if_neg (show ¬ (false=true) by decide)] at H;have H':=D H;clear H
     go_wp2_with (first|((with_reducible refine gld_ 37 rfl ?_);(first|refine la37o1_ ?_|refine la37o7_ ?_))|((with_reducible refine gld_ 3 rfl ?_);refine lc3_ ?_)|((with_reducible refine gst_ 27 rfl ?_);refine sa27_ ?_)|((with_reducible refine gld_ 27 rfl ?_);refine la27_ ?_)|((with_reducible refine gst_ 39 rfl ?_);refine sa39_ ?_)|((with_reducible refine gld_ 39 rfl ?_);refine la39_ ?_)|((with_reducible refine gate_callee (f:=18) rfl ?_);refine goesL_ (some 5) rfl rfl Try.func18 (by kernel_rfl) rfl #[I L a0_0,I L 1,I L 9999] rfl Z6 ?_;(with_reducible refine (impl_within.calls a0_0 1 9999 true _ A4.out).mono ?_);rintro e w' ⟨rfl,⟨nd,rfl⟩⟩;refine ⟨_,rfl,?_⟩)|(go_at_call 34;(with_reducible refine (impl_PrefixOk.calls k a0_1 a0_2 a0_3 a0_4 a0_5 a0_6 true _ A6.out).mono ?_);rintro e w31 ⟨rfl,hb⟩;have n_:=an_ (blk_below (pk_ Ja.out) hb)<|D (below_step (pB_ HB.out) hb);clear Ja HB;obtain ⟨Ja,HB⟩:=n_;(try clear hb))|(go_at_call 34;(with_reducible refine (impl_PrefixOk.calls k a0_7 a0_8 a0_9 a0_10 a0_11 a0_12 false _ A8.out).mono ?_);rintro e w33 ⟨rfl,hb⟩;have n_:=an_ (blk_below (pk_ Ja.out) hb)<|D (below_step (pB_ HB.out) hb);clear Ja HB;obtain ⟨Ja,HB⟩:=n_;(try clear hb)))
     go_meet
     case rel => exact ⟨_, (true), Z11, H', ⟨by first | omega | exact Nat.le_refl _⟩, ⟨pk_ Ja.out⟩, ⟨pB_ HB.out⟩⟩
   ·replace c7 := Bool.eq_false_iff.mpr c7
    subst c7;rw [if_neg (show ¬ (false=true) by decide)] at H;have H':=D H;clear H
    go_wp2_with (first|((with_reducible refine gld_ 37 rfl ?_);(first|refine la37o1_ ?_|refine la37o7_ ?_))|((with_reducible refine gld_ 3 rfl ?_);refine lc3_ ?_)|((with_reducible refine gst_ 27 rfl ?_);refine sa27_ ?_)|((with_reducible refine gld_ 27 rfl ?_);refine la27_ ?_)|((with_reducible refine gst_ 39 rfl ?_);refine sa39_ ?_)|((with_reducible refine gld_ 39 rfl ?_);refine la39_ ?_)|((with_reducible refine gate_callee (f:=18) rfl ?_);refine goesL_ (some 5) rfl rfl Try.func18 (by kernel_rfl) rfl #[I L a0_0,I L 1,I L 9999] rfl Z6 ?_;(with_reducible refine (impl_within.calls a0_0 1 9999 true _ A4.out).mono ?_);rintro e w' ⟨rfl,⟨nd,rfl⟩⟩;refine ⟨_,rfl,?_⟩)|(go_at_call 34;(with_reducible refine (impl_PrefixOk.calls k a0_1 a0_2 a0_3 a0_4 a0_5 a0_6 false _ A6.out).mono ?_);rintro e w35 ⟨rfl,hb⟩;have n_:=an_ (blk_below (pk_ Ja.out) hb)<|D (below_step (pB_ HB.out) hb);clear Ja HB;obtain ⟨Ja,HB⟩:=n_;(try clear hb)))
    go_meet
    case rel => exact ⟨_, (true), Z11, H', ⟨by first | omega | exact Nat.le_refl _⟩, ⟨pk_ Ja.out⟩, ⟨pB_ HB.out⟩⟩
  ·replace c5 := Bool.eq_false_iff.mpr c5
   subst c5;rw [if_neg (show ¬ (false=true) by decide)] at H;have H':=D H;clear H
   go_wp2_with (first|((with_reducible refine gld_ 37 rfl ?_);(first|refine la37o1_ ?_|refine la37o7_ ?_))|((with_reducible refine gld_ 3 rfl ?_);refine lc3_ ?_)|((with_reducible refine gst_ 27 rfl ?_);refine sa27_ ?_)|((with_reducible refine gld_ 27 rfl ?_);refine la27_ ?_)|((with_reducible refine gst_ 39 rfl ?_);refine sa39_ ?_)|((with_reducible refine gld_ 39 rfl ?_);refine la39_ ?_)|((with_reducible refine gate_callee (f:=18) rfl ?_);refine goesL_ (some 5) rfl rfl Try.func18 (by kernel_rfl) rfl #[I L a0_0,I L 1,I L 9999] rfl Z6 ?_;(with_reducible refine (impl_within.calls a0_0 1 9999 false _ A4.out).mono ?_);rintro e w' ⟨rfl,⟨nd,rfl⟩⟩;refine ⟨_,rfl,?_⟩))
   go_meet
   case rel => exact ⟨_, (true), Z11, H', ⟨by first | omega | exact Nat.le_refl _⟩, ⟨pk_ Ja.out⟩, ⟨pB_ HB.out⟩⟩
 case rest =>
  clear HC2
  (try clear c1);(try clear c2);(try clear p2);(try clear c5);(try clear c7);(try clear c9);(try clear c11);(try clear c13);(try clear c18);(try clear c21);skip;skip;skip;skip;skip;skip;skip;skip;skip;skip;skip;skip;skip
  obtain ⟨kq, Oa, rfl, HA, HJ1, Ja, HB⟩ := hcut
  cases kq with
  | zero => exact absurd HA.out (by simp [impl_RuleOk.j0])
  | succ kj1 =>
   have H := HA.out; clear HA; simp only [impl_RuleOk.j0] at H
   by_cases c37 : Oa = true
   ·subst c37
    rw [if_pos rfl] at H; obtain rfl := Option.some.inj H
    go_wp2_with (first|((with_reducible refine gld_ 37 rfl ?_);(first|refine la37o1_ ?_|refine la37o7_ ?_))|((with_reducible refine gld_ 3 rfl ?_);refine lc3_ ?_)|((with_reducible refine gst_ 27 rfl ?_);refine sa27_ ?_)|((with_reducible refine gld_ 27 rfl ?_);refine la27_ ?_)|((with_reducible refine gst_ 39 rfl ?_);refine sa39_ ?_)|((with_reducible refine gld_ 39 rfl ?_);refine la39_ ?_))
    go_ret; exact ⟨er_, pB_ HB.out⟩
   ·replace c37 := Bool.eq_false_iff.mpr c37
    subst c37; rw [if_neg (show ¬ (false = true) by decide)] at H; obtain ⟨Oa4, A380, H⟩ := bs_.mp H; (try dsimp only at H); have A38 := D A380; clear A380
    by_cases c39 : Oa4 = true
    ·subst c39
     rw [if_pos rfl] at H; obtain ⟨Ua4, A400, H⟩ := bs_.mp H; (try dsimp only at H); have A40 := D A400; clear A400
     by_cases c41 : Ua4 = true
     ·subst c41
      rw [if_pos rfl] at H;obtain ⟨Xa4,A420,H⟩:=bs_.mp H;(try dsimp only at H);have A42:=D A420;clear A420;obtain rfl:=Option.some.inj H
      go_wp2_with (first|((with_reducible refine gld_ 37 rfl ?_);(first|refine la37o1_ ?_|refine la37o7_ ?_))|((with_reducible refine gld_ 3 rfl ?_);refine lc3_ ?_)|((with_reducible refine gst_ 27 rfl ?_);refine sa27_ ?_)|((with_reducible refine gld_ 27 rfl ?_);refine la27_ ?_)|((with_reducible refine gst_ 39 rfl ?_);refine sa39_ ?_)|((with_reducible refine gld_ 39 rfl ?_);refine la39_ ?_)|((with_reducible refine gate_callee (f:=18) rfl ?_);refine goesL_ (some 43) rfl rfl Try.func18 (by kernel_rfl) rfl #[I L a0_18,I L 1,I L 8] rfl Z6 ?_;(with_reducible refine (impl_within.calls a0_18 1 8 true _ A38.out).mono ?_);rintro e w' ⟨rfl,⟨nd,rfl⟩⟩;refine ⟨_,rfl,?_⟩)|(go_at_call 18;(with_reducible refine (impl_within.calls a0_19 1 10 true _ A40.out).mono ?_);rintro e w' ⟨rfl,⟨nd,rfl⟩⟩)|(go_at_call 18;(with_reducible refine (impl_within.calls a0_20 1 8 Xa4 _ A42.out).mono ?_);rintro e w' ⟨rfl,⟨nd,rfl⟩⟩))
      go_ret; exact ⟨er_, pB_ HB.out⟩
     ·replace c41 := Bool.eq_false_iff.mpr c41
      subst c41;rw [if_neg (show ¬ (false=true) by decide)] at H;obtain rfl:=Option.some.inj H
      go_wp2_with (first|((with_reducible refine gld_ 37 rfl ?_);(first|refine la37o1_ ?_|refine la37o7_ ?_))|((with_reducible refine gld_ 3 rfl ?_);refine lc3_ ?_)|((with_reducible refine gst_ 27 rfl ?_);refine sa27_ ?_)|((with_reducible refine gld_ 27 rfl ?_);refine la27_ ?_)|((with_reducible refine gst_ 39 rfl ?_);refine sa39_ ?_)|((with_reducible refine gld_ 39 rfl ?_);refine la39_ ?_)|((with_reducible refine gate_callee (f:=18) rfl ?_);refine goesL_ (some 43) rfl rfl Try.func18 (by kernel_rfl) rfl #[I L a0_18,I L 1,I L 8] rfl Z6 ?_;(with_reducible refine (impl_within.calls a0_18 1 8 true _ A38.out).mono ?_);rintro e w' ⟨rfl,⟨nd,rfl⟩⟩;refine ⟨_,rfl,?_⟩)|(go_at_call 18;(with_reducible refine (impl_within.calls a0_19 1 10 false _ A40.out).mono ?_);rintro e w' ⟨rfl,⟨nd,rfl⟩⟩))
      go_ret; exact ⟨er_, pB_ HB.out⟩
    ·replace c39 := Bool.eq_false_iff.mpr c39
     subst c39;rw [if_neg (show ¬ (false=true) by decide)] at H;obtain rfl:=Option.some.inj H
     go_wp2_with (first|((with_reducible refine gld_ 37 rfl ?_);(first|refine la37o1_ ?_|refine la37o7_ ?_))|((with_reducible refine gld_ 3 rfl ?_);refine lc3_ ?_)|((with_reducible refine gst_ 27 rfl ?_);refine sa27_ ?_)|((with_reducible refine gld_ 27 rfl ?_);refine la27_ ?_)|((with_reducible refine gst_ 39 rfl ?_);refine sa39_ ?_)|((with_reducible refine gld_ 39 rfl ?_);refine la39_ ?_)|((with_reducible refine gate_callee (f:=18) rfl ?_);refine goesL_ (some 43) rfl rfl Try.func18 (by kernel_rfl) rfl #[I L a0_18,I L 1,I L 8] rfl Z6 ?_;(with_reducible refine (impl_within.calls a0_18 1 8 false _ A38.out).mono ?_);rintro e w' ⟨rfl,⟨nd,rfl⟩⟩;refine ⟨_,rfl,?_⟩))
     go_ret; exact ⟨er_, pB_ HB.out⟩

end Go.Proofs.Ytjhgkonacdimfab.PFnExactCmdOk
