-- by a program of this session's, over the kit's words
import Derived.Test.YtjhgkonacdimfabPZFnExactCmdOk
import Derived.Test.YtjhgkonacdimfabPFnExactCmdOkx0
import Derived.Test.YtjhgkonacdimfabPFnExactCmdOkx10
namespace Go.Proofs.Ytjhgkonacdimfab.PFnExactCmdOk
open Go.RowKit Go.Proofs.YtjhgkonacdimfabW.PrintWords Go.Proofs.YtjhgkonacdimfabW.PrintLast Go.Proofs.YtjhgkonacdimfabW.PrintMore Go.Proofs.YtjhgkonacdimfabV Go.Proofs.Ytjhgkonacdimfab.ZFnExactCmdOk
open Go.Value renaming int → I, slice → Y
open Go.IntKind renaming i64 → L
open Aside0 renaming mk → D
open Option renaming bind_eq_some_iff → bs_
attribute [local go_sem] max2_int min2_int max_two min_two max_three min_three max_four min_four   -- for this text's walks alone
set_option linter.unusedVariables false
set_option linter.unusedSimpArgs false

/-! ### spec_RuleOk: function 11 -/
def spec_RuleOk.j0 : Nat → Bool → Int → Int → Int → Int → Int → Int → Int → Int → Int → Int → Int → Int → Int → Int → Int → Int → Int → Int → Int → Int → Int → Option (Bool)
 | 0, _, _, _, _, _, _, _, _, _, _, _, _, _, _, _, _, _, _, _, _, _, _ => none
 | k + 1,x32,x192000,x192001,x192002,x192003,x192004,x192005,x192006,x192007,x192008,x192009,x192010,x192011,x192012,x192013,x192014,x192015,x192016,x192017,x192018,x192019,x192020=>if x32=true then (some false) else ((spec_l09Range.f x192014 x192015).bind fun t194=>(if t194=true then ((spec_l09Range.f x192016 x192017).bind fun t195=>(if t195=true then (if x192018 ≥ 1 then (if x192018≤8 then (if x192019 ≥ 1 then (if x192019≤10 then (if x192020 ≥ 1 then (some (decide (x192020≤8))) else (some false)) else (some false)) else (some false)) else (some false)) else (some false)) else (some false))) else (some false)))
def spec_RuleOk.f (k : Nat) (a0_0 a0_1 a0_2 a0_3 a0_4 a0_5 a0_6 a0_7 a0_8 a0_9 a0_10 a0_11 a0_12 a0_13 a0_14 a0_15 a0_16 a0_17 a0_18 a0_19 a0_20 : Int) : Option (Bool) := if a0_0 < 1 then (spec_RuleOk.j0 k true a0_0 a0_1 a0_2 a0_3 a0_4 a0_5 a0_6 a0_7 a0_8 a0_9 a0_10 a0_11 a0_12 a0_13 a0_14 a0_15 a0_16 a0_17 a0_18 a0_19 a0_20) else (if a0_0 > 9999 then (spec_RuleOk.j0 k true a0_0 a0_1 a0_2 a0_3 a0_4 a0_5 a0_6 a0_7 a0_8 a0_9 a0_10 a0_11 a0_12 a0_13 a0_14 a0_15 a0_16 a0_17 a0_18 a0_19 a0_20) else ((spec_PrefixOk.f k a0_1 a0_2 a0_3 a0_4 a0_5 a0_6).bind fun t192 => (if t192 = true then ((spec_PrefixOk.f k a0_7 a0_8 a0_9 a0_10 a0_11 a0_12).bind fun t193 => (if t193 = true then (if a0_13 < (-1) then (spec_RuleOk.j0 k true a0_0 a0_1 a0_2 a0_3 a0_4 a0_5 a0_6 a0_7 a0_8 a0_9 a0_10 a0_11 a0_12 a0_13 a0_14 a0_15 a0_16 a0_17 a0_18 a0_19 a0_20) else (spec_RuleOk.j0 k (decide (a0_13 > 255)) a0_0 a0_1 a0_2 a0_3 a0_4 a0_5 a0_6 a0_7 a0_8 a0_9 a0_10 a0_11 a0_12 a0_13 a0_14 a0_15 a0_16 a0_17 a0_18 a0_19 a0_20)) else (spec_RuleOk.j0 k true a0_0 a0_1 a0_2 a0_3 a0_4 a0_5 a0_6 a0_7 a0_8 a0_9 a0_10 a0_11 a0_12 a0_13 a0_14 a0_15 a0_16 a0_17 a0_18 a0_19 a0_20))) else (spec_RuleOk.j0 k true a0_0 a0_1 a0_2 a0_3 a0_4 a0_5 a0_6 a0_7 a0_8 a0_9 a0_10 a0_11 a0_12 a0_13 a0_14 a0_15 a0_16 a0_17 a0_18 a0_19 a0_20))))
set_option maxHeartbeats 8000000 in
set_option maxRecDepth 100000 in
theorem spec_RuleOk.calls (k : Nat) (a0_0 a0_1 a0_2 a0_3 a0_4 a0_5 a0_6 a0_7 a0_8 a0_9 a0_10 a0_11 a0_12 a0_13 a0_14 a0_15 a0_16 a0_17 a0_18 a0_19 a0_20 : Int) (r : Bool) (w : World) (h : spec_RuleOk.f k a0_0 a0_1 a0_2 a0_3 a0_4 a0_5 a0_6 a0_7 a0_8 a0_9 a0_10 a0_11 a0_12 a0_13 a0_14 a0_15 a0_16 a0_17 a0_18 a0_19 a0_20 = some r) :
  Calls Try.prog 11 #[.agg #[I L a0_0,I L a0_1,I L a0_2,I L a0_3,I L a0_4,I L a0_5,I L a0_6,I L a0_7,I L a0_8,I L a0_9,I L a0_10,I L a0_11,I L a0_12,I L a0_13,I L a0_14,I L a0_15,I L a0_16,I L a0_17,I L a0_18,I L a0_19,I L a0_20]] w fun e w'=>e=.returned (.bool r)∧Below w.heap.size w w':=by
 have hu39 := Try.underlying39
 have hu37 := Try.underlying37
 have HB := D (Below.refl w.heap.size w)
 have H:(if a0_0 < 1 then (spec_RuleOk.j0 k true a0_0 a0_1 a0_2 a0_3 a0_4 a0_5 a0_6 a0_7 a0_8 a0_9 a0_10 a0_11 a0_12 a0_13 a0_14 a0_15 a0_16 a0_17 a0_18 a0_19 a0_20) else (if a0_0 > 9999 then (spec_RuleOk.j0 k true a0_0 a0_1 a0_2 a0_3 a0_4 a0_5 a0_6 a0_7 a0_8 a0_9 a0_10 a0_11 a0_12 a0_13 a0_14 a0_15 a0_16 a0_17 a0_18 a0_19 a0_20) else ((spec_PrefixOk.f k a0_1 a0_2 a0_3 a0_4 a0_5 a0_6).bind fun Oa=>(if Oa=true then ((spec_PrefixOk.f k a0_7 a0_8 a0_9 a0_10 a0_11 a0_12).bind fun Ua=>(if Ua=true then (if a0_13 < (-1) then (spec_RuleOk.j0 k true a0_0 a0_1 a0_2 a0_3 a0_4 a0_5 a0_6 a0_7 a0_8 a0_9 a0_10 a0_11 a0_12 a0_13 a0_14 a0_15 a0_16 a0_17 a0_18 a0_19 a0_20) else (spec_RuleOk.j0 k (decide (a0_13 > 255)) a0_0 a0_1 a0_2 a0_3 a0_4 a0_5 a0_6 a0_7 a0_8 a0_9 a0_10 a0_11 a0_12 a0_13 a0_14 a0_15 a0_16 a0_17 a0_18 a0_19 a0_20)) else (spec_RuleOk.j0 k true a0_0 a0_1 a0_2 a0_3 a0_4 a0_5 a0_6 a0_7 a0_8 a0_9 a0_10 a0_11 a0_12 a0_13 a0_14 a0_15 a0_16 a0_17 a0_18 a0_19 a0_20))) else (spec_RuleOk.j0 k true a0_0 a0_1 a0_2 a0_3 a0_4 a0_5 a0_6 a0_7 a0_8 a0_9 a0_10 a0_11 a0_12 a0_13 a0_14 a0_15 a0_16 a0_17 a0_18 a0_19 a0_20)))))=some r:=h
 clear h
 have HC2 := D H
 clear H
 go_enter Try.func11, Try.ntmps11
 go_upto_region 1 with (first|((with_reducible refine gld_ 37 rfl ?_);(first|refine la37o1_ ?_|refine la37o7_ ?_))|((with_reducible refine gld_ 3 rfl ?_);refine lc3_ ?_)|((with_reducible refine gst_ 27 rfl ?_);refine sa27_ ?_)|((with_reducible refine gld_ 27 rfl ?_);refine la27_ ?_)|((with_reducible refine gst_ 39 rfl ?_);refine sa39_ ?_)|((with_reducible refine gld_ 39 rfl ?_);refine la39_ ?_)|((with_reducible refine gate_dst (N:=1) rfl ?_);refine bx_ (N:=1) (cs:=#[I L a0_0,I L a0_1,I L a0_2,I L a0_3,I L a0_4,I L a0_5,I L a0_6,I L a0_7,I L a0_8,I L a0_9,I L a0_10,I L a0_11,I L a0_12,I L a0_13,I L a0_14,I L a0_15,I L a0_16,I L a0_17,I L a0_18,I L a0_19,I L a0_20]) (t:=39) ?_;intro Ka hg w3 hbox hb;have n_:=an_ (below_step (pB_ HB.out) hb)<|an_ (hbox)<|an_ (bg_ hg (pB_ HB.out):w.heap.size≤Ka)<|D (bg_ hg (pB_ HB.out):w.heap.size≤Ka);clear HB;obtain ⟨HB,Ja,Kj3,Mj3⟩:=n_;clear hb hbox hg))
 (try simp only [Act.put, List.setIfInBounds_toArray, List.set_cons_zero, List.set_cons_succ])
 go_cut [32] (fun v32 wc=>∃ (kq:Nat) (Ma:Bool),v32=.bool Ma∧Aside0 (spec_RuleOk.j0 kq Ma a0_0 a0_1 a0_2 a0_3 a0_4 a0_5 a0_6 a0_7 a0_8 a0_9 a0_10 a0_11 a0_12 a0_13 a0_14 a0_15 a0_16 a0_17 a0_18 a0_19 a0_20=some r)∧Aside0 (kq≤k)∧Aside0 (wc.heap[Ka]?=some (.cells #[I L a0_0,I L a0_1,I L a0_2,I L a0_3,I L a0_4,I L a0_5,I L a0_6,I L a0_7,I L a0_8,I L a0_9,I L a0_10,I L a0_11,I L a0_12,I L a0_13,I L a0_14,I L a0_15,I L a0_16,I L a0_17,I L a0_18,I L a0_19,I L a0_20] 39 (0,0)))∧Aside0 (Below w.heap.size w wc))
 case first =>
  have H := HC2.out; clear HC2
  by_cases c4 : a0_0 < 1
  ·rw [if_pos c4] at H
   have c4b0:decide (a0_0 < 1)=true:=decide_eq_true c4;clear c4;refine rw_ c4b0 ?_;have H':=D H;clear H
   go_wp2_with (first|((with_reducible refine gld_ 37 rfl ?_);(first|refine la37o1_ ?_|refine la37o7_ ?_))|((with_reducible refine gld_ 3 rfl ?_);refine lc3_ ?_)|((with_reducible refine gst_ 27 rfl ?_);refine sa27_ ?_)|((with_reducible refine gld_ 27 rfl ?_);refine la27_ ?_)|((with_reducible refine gst_ 39 rfl ?_);refine sa39_ ?_)|((with_reducible refine gld_ 39 rfl ?_);refine la39_ ?_))
   go_meet
   case rel => exact ⟨_, (true), Z11, H', ⟨by first | omega | exact Nat.le_refl _⟩, ⟨pk_ Ja.out⟩, ⟨pB_ HB.out⟩⟩
  ·rw [if_neg c4] at H
   have c4b0:decide (a0_0 < 1)=false:=decide_eq_false c4;clear c4;refine rw_ c4b0 ?_
   by_cases c6 : a0_0 > 9999
   ·rw [if_pos c6] at H
    have c6b0:decide (9999 < a0_0)=true:=decide_eq_true c6;clear c6;have H':=D H;clear H
    go_wp2_with (first|((with_reducible refine gld_ 37 rfl ?_);(first|refine la37o1_ ?_|refine la37o7_ ?_))|((with_reducible refine gld_ 3 rfl ?_);refine lc3_ ?_)|((with_reducible refine gst_ 27 rfl ?_);refine sa27_ ?_)|((with_reducible refine gld_ 27 rfl ?_);refine la27_ ?_)|((with_reducible refine gst_ 39 rfl ?_);refine sa39_ ?_)|((with_reducible refine gld_ 39 rfl ?_);refine la39_ ?_))
    go_meet
    case rel => exact ⟨_, (true), Z11, H', ⟨by first | omega | exact Nat.le_refl _⟩, ⟨pk_ Ja.out⟩, ⟨pB_ HB.out⟩⟩
   ·rw [if_neg c6] at H
    have c6b0 : decide (9999 < a0_0) = false := decide_eq_false c6; clear c6; obtain ⟨Oa, A80, H⟩ := bs_.mp H; (try dsimp only at H); have A8 := D A80; clear A80
    by_cases c9 : Oa = true
    ·subst c9
     rw [if_pos rfl] at H; obtain ⟨Ua, A100, H⟩ := bs_.mp H; (try dsimp only at H); have A10 := D A100; clear A100
     by_cases c11 : Ua = true
     ·subst c11
      rw [if_pos rfl] at H
      by_cases c12 : a0_13 < (-1)
      ·rw [if_pos c12] at H
       have c12b0:decide (a0_13 < (-1))=true:=decide_eq_true c12;clear c12;have H':=D H;clear H
       go_wp2_with (first|((with_reducible refine gld_ 37 rfl ?_);(first|refine la37o1_ ?_|refine la37o7_ ?_))|((with_reducible refine gld_ 3 rfl ?_);refine lc3_ ?_)|((with_reducible refine gst_ 27 rfl ?_);refine sa27_ ?_)|((with_reducible refine gld_ 27 rfl ?_);refine la27_ ?_)|((with_reducible refine gst_ 39 rfl ?_);refine sa39_ ?_)|((with_reducible refine gld_ 39 rfl ?_);refine la39_ ?_)|(go_at_call 27;(with_reducible refine (spec_PrefixOk.calls k a0_1 a0_2 a0_3 a0_4 a0_5 a0_6 true _ A8.out).mono ?_);rintro e w14 ⟨rfl,hb⟩;have n_:=an_ (blk_below (pk_ Ja.out) hb)<|D (below_step (pB_ HB.out) hb);clear Ja HB;obtain ⟨Ja,HB⟩:=n_;(try clear hb))|(go_at_call 27;(with_reducible refine (spec_PrefixOk.calls k a0_7 a0_8 a0_9 a0_10 a0_11 a0_12 true _ A10.out).mono ?_);rintro e w16 ⟨rfl,hb⟩;have n_:=an_ (blk_below (pk_ Ja.out) hb)<|D (below_step (pB_ HB.out) hb);clear Ja HB;obtain ⟨Ja,HB⟩:=n_;(try clear hb)))
       go_meet
       case rel => exact ⟨_, (true), Z11, H', ⟨by first | omega | exact Nat.le_refl _⟩, ⟨pk_ Ja.out⟩, ⟨pB_ HB.out⟩⟩
      ·rw [if_neg c12] at H
       have c12b0:decide (a0_13 < (-1))=false:=decide_eq_false c12;clear c12;have H':=D H;clear H
       go_wp2_with (first|((with_reducible refine gld_ 37 rfl ?_);(first|refine la37o1_ ?_|refine la37o7_ ?_))|((with_reducible refine gld_ 3 rfl ?_);refine lc3_ ?_)|((with_reducible refine gst_ 27 rfl ?_);refine sa27_ ?_)|((with_reducible refine gld_ 27 rfl ?_);refine la27_ ?_)|((with_reducible refine gst_ 39 rfl ?_);refine sa39_ ?_)|((with_reducible refine gld_ 39 rfl ?_);refine la39_ ?_)|(go_at_call 27;(with_reducible refine (spec_PrefixOk.calls k a0_1 a0_2 a0_3 a0_4 a0_5 a0_6 true _ A8.out).mono ?_);rintro e w19 ⟨rfl,hb⟩;have n_:=an_ (blk_below (pk_ Ja.out) hb)<|D (below_step (pB_ HB.out) hb);clear Ja HB;obtain ⟨Ja,HB⟩:=n_;(try clear hb))|(go_at_call 27;(with_reducible refine (spec_PrefixOk.calls k a0_7 a0_8 a0_9 a0_10 a0_11 a0_12 true _ A10.out).mono ?_);rintro e w21 ⟨rfl,hb⟩;have n_:=an_ (blk_below (pk_ Ja.out) hb)<|D (below_step (pB_ HB.out) hb);clear Ja HB;obtain ⟨Ja,HB⟩:=n_;(try clear hb)))
       go_meet
       case rel => exact ⟨_, (decide (a0_13 > 255)), Z11, H', ⟨by first | omega | exact Nat.le_refl _⟩, ⟨pk_ Ja.out⟩, ⟨pB_ HB.out⟩⟩
     ·replace c11 := Bool.eq_false_iff.mpr c11
      subst c11;rw [if_neg (show ¬ (false=true) by decide)] at H;have H':=D H;clear H
      go_wp2_with (first|((with_reducible refine gld_ 37 rfl ?_);(first|refine la37o1_ ?_|refine la37o7_ ?_))|((with_reducible refine gld_ 3 rfl ?_);refine lc3_ ?_)|((with_reducible refine gst_ 27 rfl ?_);refine sa27_ ?_)|((with_reducible refine gld_ 27 rfl ?_);refine la27_ ?_)|((with_reducible refine gst_ 39 rfl ?_);refine sa39_ ?_)|((with_reducible refine gld_ 39 rfl ?_);refine la39_ ?_)|(go_at_call 27;(with_reducible refine (spec_PrefixOk.calls k a0_1 a0_2 a0_3 a0_4 a0_5 a0_6 true _ A8.out).mono ?_);rintro e w24 ⟨rfl,hb⟩;have n_:=an_ (blk_below (pk_ Ja.out) hb)<|D (below_step (pB_ HB.out) hb);clear Ja HB;obtain ⟨Ja,HB⟩:=n_;(try clear hb))|(go_at_call 27;(with_reducible refine (spec_PrefixOk.calls k a0_7 a0_8 a0_9 a0_10 a0_11 a0_12 false _ A10.out).mono ?_);rintro e w26 ⟨rfl,hb⟩;have n_:=an_ (blk_below (pk_ Ja.out) hb)<|D (below_step (pB_ HB.out) hb);clear Ja HB;obtain ⟨Ja,HB⟩:=n_;(try clear hb)))
      go_meet
      case rel => exact ⟨_, (true), Z11, H', ⟨by first | omega | exact Nat.le_refl _⟩, ⟨pk_ Ja.out⟩, ⟨pB_ HB.out⟩⟩
    ·replace c9 := Bool.eq_false_iff.mpr c9
     subst c9;rw [if_neg (show ¬ (false=true) by decide)] at H;have H':=D H;clear H
     go_wp2_with (first|((with_reducible refine gld_ 37 rfl ?_);(first|refine la37o1_ ?_|refine la37o7_ ?_))|((with_reducible refine gld_ 3 rfl ?_);refine lc3_ ?_)|((with_reducible refine gst_ 27 rfl ?_);refine sa27_ ?_)|((with_reducible refine gld_ 27 rfl ?_);refine la27_ ?_)|((with_reducible refine gst_ 39 rfl ?_);refine sa39_ ?_)|((with_reducible refine gld_ 39 rfl ?_);refine la39_ ?_)|(go_at_call 27;(with_reducible refine (spec_PrefixOk.calls k a0_1 a0_2 a0_3 a0_4 a0_5 a0_6 false _ A8.out).mono ?_);rintro e w28 ⟨rfl,hb⟩;have n_:=an_ (blk_below (pk_ Ja.out) hb)<|D (below_step (pB_ HB.out) hb);clear Ja HB;obtain ⟨Ja,HB⟩:=n_;(try clear hb)))
     go_meet
     case rel => exact ⟨_, (true), Z11, H', ⟨by first | omega | exact Nat.le_refl _⟩, ⟨pk_ Ja.out⟩, ⟨pB_ HB.out⟩⟩
 case rest =>
  clear HC2
  (try clear c1);(try clear p2);(try clear c4);(try clear c4b0);(try clear c6);(try clear c6b0);(try clear c9);(try clear c11);(try clear c12);(try clear c12b0);skip;skip;skip;skip;skip;skip;skip;skip;skip;skip;skip
  obtain ⟨kq, Ma, rfl, HA, HJ1, Ja, HB⟩ := hcut
  cases kq with
  | zero => exact absurd HA.out (by simp [spec_RuleOk.j0])
  | succ kj1 =>
   have H := HA.out; clear HA; simp only [spec_RuleOk.j0] at H
   by_cases c29 : Ma = true
   ·subst c29
    rw [if_pos rfl] at H; obtain rfl := Option.some.inj H
    go_wp2_with (first|((with_reducible refine gld_ 37 rfl ?_);(first|refine la37o1_ ?_|refine la37o7_ ?_))|((with_reducible refine gld_ 3 rfl ?_);refine lc3_ ?_)|((with_reducible refine gst_ 27 rfl ?_);refine sa27_ ?_)|((with_reducible refine gld_ 27 rfl ?_);refine la27_ ?_)|((with_reducible refine gst_ 39 rfl ?_);refine sa39_ ?_)|((with_reducible refine gld_ 39 rfl ?_);refine la39_ ?_))
    go_ret; exact ⟨er_, pB_ HB.out⟩
   ·replace c29 := Bool.eq_false_iff.mpr c29
    subst c29; rw [if_neg (show ¬ (false = true) by decide)] at H; obtain ⟨Jj3, A300, H⟩ := bs_.mp H; (try dsimp only at H); have A30 := D A300; clear A300
    by_cases c31 : Jj3 = true
    ·subst c31
     rw [if_pos rfl] at H;obtain ⟨Xa,A320,H⟩:=bs_.mp H;(try dsimp only at H);have A32:=D A320;clear A320;have HU33:=D H;clear H
     go_upto_if 46 with (first|((with_reducible refine gld_ 37 rfl ?_);(first|refine la37o1_ ?_|refine la37o7_ ?_))|((with_reducible refine gld_ 3 rfl ?_);refine lc3_ ?_)|((with_reducible refine gst_ 27 rfl ?_);refine sa27_ ?_)|((with_reducible refine gld_ 27 rfl ?_);refine la27_ ?_)|((with_reducible refine gst_ 39 rfl ?_);refine sa39_ ?_)|((with_reducible refine gld_ 39 rfl ?_);refine la39_ ?_)|((with_reducible refine gate_callee (f:=28) rfl ?_);refine goesL_ (some 37) rfl rfl Try.func28 (by kernel_rfl) rfl #[I L a0_14,I L a0_15] rfl Z6 ?_;(with_reducible refine (spec_l09Range.calls a0_14 a0_15 true _ A30.out).mono ?_);rintro e w' ⟨rfl,⟨nd,rfl⟩⟩;refine ⟨_,rfl,?_⟩)|(go_at_call 28;(with_reducible refine (spec_l09Range.calls a0_16 a0_17 Xa _ A32.out).mono ?_);rintro e w' ⟨rfl,⟨nd,rfl⟩⟩))
     have H := HU33.out; clear HU33
     by_cases c35 : Xa = true
     ·subst c35
      rw [if_pos rfl] at H
      by_cases c36 : a0_18 ≥ 1
      ·rw [if_pos c36] at H
       have c36b0:decide (1≤a0_18)=true:=decide_eq_true c36;clear c36;refine rw_ c36b0 ?_
       by_cases c37 : a0_18 ≤ 8
       ·rw [if_pos c37] at H
        have c37b0 : decide (a0_18 ≤ 8) = true := decide_eq_true c37; clear c37
        by_cases c38 : a0_19 ≥ 1
        ·rw [if_pos c38] at H
         have c38b0 : decide (1 ≤ a0_19) = true := decide_eq_true c38; clear c38
         by_cases c39 : a0_19 ≤ 10
         ·rw [if_pos c39] at H
          have c39b0 : decide (a0_19 ≤ 10) = true := decide_eq_true c39; clear c39
          by_cases c40 : a0_20 ≥ 1
          ·rw [if_pos c40] at H
           have c40b0:decide (1≤a0_20)=true:=decide_eq_true c40;clear c40;obtain rfl:=Option.some.inj H
           go_wp2_with (first|((with_reducible refine gld_ 37 rfl ?_);(first|refine la37o1_ ?_|refine la37o7_ ?_))|((with_reducible refine gld_ 3 rfl ?_);refine lc3_ ?_)|((with_reducible refine gst_ 27 rfl ?_);refine sa27_ ?_)|((with_reducible refine gld_ 27 rfl ?_);refine la27_ ?_)|((with_reducible refine gst_ 39 rfl ?_);refine sa39_ ?_)|((with_reducible refine gld_ 39 rfl ?_);refine la39_ ?_))
           go_ret; exact ⟨er_, pB_ HB.out⟩
          ·rw [if_neg c40] at H
           have c40b0:decide (1≤a0_20)=false:=decide_eq_false c40;clear c40;obtain rfl:=Option.some.inj H
           go_wp2_with (first|((with_reducible refine gld_ 37 rfl ?_);(first|refine la37o1_ ?_|refine la37o7_ ?_))|((with_reducible refine gld_ 3 rfl ?_);refine lc3_ ?_)|((with_reducible refine gst_ 27 rfl ?_);refine sa27_ ?_)|((with_reducible refine gld_ 27 rfl ?_);refine la27_ ?_)|((with_reducible refine gst_ 39 rfl ?_);refine sa39_ ?_)|((with_reducible refine gld_ 39 rfl ?_);refine la39_ ?_))
           go_ret; exact ⟨er_, pB_ HB.out⟩
         ·rw [if_neg c39] at H
          have c39b0:decide (a0_19≤10)=false:=decide_eq_false c39;clear c39;obtain rfl:=Option.some.inj H
          go_wp2_with (first|((with_reducible refine gld_ 37 rfl ?_);(first|refine la37o1_ ?_|refine la37o7_ ?_))|((with_reducible refine gld_ 3 rfl ?_);refine lc3_ ?_)|((with_reducible refine gst_ 27 rfl ?_);refine sa27_ ?_)|((with_reducible refine gld_ 27 rfl ?_);refine la27_ ?_)|((with_reducible refine gst_ 39 rfl ?_);refine sa39_ ?_)|((with_reducible refine gld_ 39 rfl ?_);refine la39_ ?_))
          go_ret; exact ⟨er_, pB_ HB.out⟩
        ·rw [if_neg c38] at H
         have c38b0:decide (1≤a0_19)=false:=decide_eq_false c38;clear c38;obtain rfl:=Option.some.inj H
         go_wp2_with (first|((with_reducible refine gld_ 37 rfl ?_);(first|refine la37o1_ ?_|refine la37o7_ ?_))|((with_reducible refine gld_ 3 rfl ?_);refine lc3_ ?_)|((with_reducible refine gst_ 27 rfl ?_);refine sa27_ ?_)|((with_reducible refine gld_ 27 rfl ?_);refine la27_ ?_)|((with_reducible refine gst_ 39 rfl ?_);refine sa39_ ?_)|((with_reducible refine gld_ 39 rfl ?_);refine la39_ ?_))
         go_ret; exact ⟨er_, pB_ HB.out⟩
       ·rw [if_neg c37] at H
        have c37b0:decide (a0_18≤8)=false:=decide_eq_false c37;clear c37;obtain rfl:=Option.some.inj H
        go_wp2_with (first|((with_reducible refine gld_ 37 rfl ?_);(first|refine la37o1_ ?_|refine la37o7_ ?_))|((with_reducible refine gld_ 3 rfl ?_);refine lc3_ ?_)|((with_reducible refine gst_ 27 rfl ?_);refine sa27_ ?_)|((with_reducible refine gld_ 27 rfl ?_);refine la27_ ?_)|((with_reducible refine gst_ 39 rfl ?_);refine sa39_ ?_)|((with_reducible refine gld_ 39 rfl ?_);refine la39_ ?_))
        go_ret; exact ⟨er_, pB_ HB.out⟩
      ·rw [if_neg c36] at H
       have c36b0:decide (1≤a0_18)=false:=decide_eq_false c36;clear c36;refine rw_ c36b0 ?_;obtain rfl:=Option.some.inj H
       go_wp2_with (first|((with_reducible refine gld_ 37 rfl ?_);(first|refine la37o1_ ?_|refine la37o7_ ?_))|((with_reducible refine gld_ 3 rfl ?_);refine lc3_ ?_)|((with_reducible refine gst_ 27 rfl ?_);refine sa27_ ?_)|((with_reducible refine gld_ 27 rfl ?_);refine la27_ ?_)|((with_reducible refine gst_ 39 rfl ?_);refine sa39_ ?_)|((with_reducible refine gld_ 39 rfl ?_);refine la39_ ?_))
       go_ret; exact ⟨er_, pB_ HB.out⟩
     ·replace c35 := Bool.eq_false_iff.mpr c35
      subst c35; rw [if_neg (show ¬ (false = true) by decide)] at H; obtain rfl := Option.some.inj H
      go_wp2_with (first|((with_reducible refine gld_ 37 rfl ?_);(first|refine la37o1_ ?_|refine la37o7_ ?_))|((with_reducible refine gld_ 3 rfl ?_);refine lc3_ ?_)|((with_reducible refine gst_ 27 rfl ?_);refine sa27_ ?_)|((with_reducible refine gld_ 27 rfl ?_);refine la27_ ?_)|((with_reducible refine gst_ 39 rfl ?_);refine sa39_ ?_)|((with_reducible refine gld_ 39 rfl ?_);refine la39_ ?_))
      go_ret; exact ⟨er_, pB_ HB.out⟩
    ·replace c31 := Bool.eq_false_iff.mpr c31
     subst c31;rw [if_neg (show ¬ (false=true) by decide)] at H;obtain rfl:=Option.some.inj H
     go_wp2_with (first|((with_reducible refine gld_ 37 rfl ?_);(first|refine la37o1_ ?_|refine la37o7_ ?_))|((with_reducible refine gld_ 3 rfl ?_);refine lc3_ ?_)|((with_reducible refine gst_ 27 rfl ?_);refine sa27_ ?_)|((with_reducible refine gld_ 27 rfl ?_);refine la27_ ?_)|((with_reducible refine gst_ 39 rfl ?_);refine sa39_ ?_)|((with_reducible refine gld_ 39 rfl ?_);refine la39_ ?_)|((with_reducible refine gate_callee (f:=28) rfl ?_);refine goesL_ (some 37) rfl rfl Try.func28 (by kernel_rfl) rfl #[I L a0_14,I L a0_15] rfl Z6 ?_;(with_reducible refine (spec_l09Range.calls a0_14 a0_15 false _ A30.out).mono ?_);rintro e w' ⟨rfl,⟨nd,rfl⟩⟩;refine ⟨_,rfl,?_⟩))
     go_ret; exact ⟨er_, pB_ HB.out⟩

end Go.Proofs.Ytjhgkonacdimfab.PFnExactCmdOk
