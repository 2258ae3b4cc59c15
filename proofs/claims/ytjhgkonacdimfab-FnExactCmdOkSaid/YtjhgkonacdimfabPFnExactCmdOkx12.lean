-- by a program of this session's, over the kit's words
import Derived.Test.YtjhgkonacdimfabPZFnExactCmdOk
import Derived.Test.YtjhgkonacdimfabPFnExactCmdOkx0
import Derived.Test.YtjhgkonacdimfabPFnExactCmdOkx8
import Derived.Test.YtjhgkonacdimfabPFnExactCmdOkx10
namespace Go.Proofs.Ytjhgkonacdimfab.PFnExactCmdOk
open Go.RowKit Go.Proofs.YtjhgkonacdimfabW.PrintWords Go.Proofs.YtjhgkonacdimfabW.PrintLast Go.Proofs.YtjhgkonacdimfabW.PrintMore Go.Proofs.YtjhgkonacdimfabV Go.Proofs.Ytjhgkonacdimfab.ZFnExactCmdOk
open Go.Value renaming int → I, slice → Y
open Go.IntKind renaming i64 → L
open Aside0 renaming mk → D
open Option renaming bind_eq_some_iff → bs_
attribute [local go_sem] max2_int min2_int max_two min_two max_three min_three max_four min_four   -- for this text's walks alone
set_option linter.unusedVariables false
set_option linter.unusedSimpArgs false

/-! ### spec_LimitsOk: function 12 -/
def spec_LimitsOk.f (a0_0 a0_1 a0_2 a0_3 : Int) (a0_4 : Bool) : Option (Bool) := if a0_0 < 1 then (some false) else (if a0_0 > 64 then (some false) else (if a0_1 < 1 then (some false) else (if a0_1 > 100000 then (some false) else (if a0_2 ≥ 1 then (if a0_2 ≤ 1000000 then (if a0_3 ≥ 0 then (some (decide (a0_3 ≤ 100000))) else (some false)) else (some false)) else (some false)))))
set_option maxHeartbeats 8000000 in
set_option maxRecDepth 100000 in
theorem spec_LimitsOk.calls (a0_0 a0_1 a0_2 a0_3 : Int) (a0_4 r : Bool) (w : World) (h : spec_LimitsOk.f a0_0 a0_1 a0_2 a0_3 a0_4 = some r) :
  Calls Try.prog 12 #[.agg #[I L a0_0, I L a0_1, I L a0_2, I L a0_3, .bool a0_4]] w fun e w' => e = .returned (.bool r) ∧ Below w.heap.size w w' := by
 have hu40 := Try.underlying40
 have HB := D (Below.refl w.heap.size w)
 have H:(if a0_0 < 1 then (some false) else (if a0_0 > 64 then (some false) else (if a0_1 < 1 then (some false) else (if a0_1 > 100000 then (some false) else (if a0_2 ≥ 1 then (if a0_2≤1000000 then (if a0_3 ≥ 0 then (some (decide (a0_3≤100000))) else (some false)) else (some false)) else (some false))))))=some r:=h
 clear h
 by_cases c2 : a0_0 < 1
 ·rw [if_pos c2] at H
  have c2b0 : decide (a0_0 < 1) = true := decide_eq_true c2; clear c2; obtain rfl := Option.some.inj H; go_enter Try.func12, Try.ntmps12
  go_wp2_with (first|((with_reducible refine gate_dst (N:=1) rfl ?_);refine bx_ (N:=1) (cs:=#[I L a0_0,I L a0_1,I L a0_2,I L a0_3,.bool a0_4]) (t:=40) ?_;intro gb196 hg w3 hbox hb;have n_:=an_ (below_step (pB_ HB.out) hb)<|an_ (hbox)<|an_ (bg_ hg (pB_ HB.out):w.heap.size≤gb196)<|D (bg_ hg (pB_ HB.out):w.heap.size≤gb196);clear HB;obtain ⟨HB,BK196,GW196,GE196⟩:=n_;clear hb hbox hg;have hcz4_0:=cells5 BK196.out))
  go_ret; exact ⟨er_, pB_ HB.out⟩
 ·rw [if_neg c2] at H
  have c2b0 : decide (a0_0 < 1) = false := decide_eq_false c2; clear c2
  by_cases c5 : a0_0 > 64
  ·rw [if_pos c5] at H
   have c5b0 : decide (64 < a0_0) = true := decide_eq_true c5; clear c5; obtain rfl := Option.some.inj H; go_enter Try.func12, Try.ntmps12
   go_wp2_with (first|((with_reducible refine gate_dst (N:=1) rfl ?_);refine bx_ (N:=1) (cs:=#[I L a0_0,I L a0_1,I L a0_2,I L a0_3,.bool a0_4]) (t:=40) ?_;intro gb196 hg w6 hbox hb;have n_:=an_ (below_step (pB_ HB.out) hb)<|an_ (hbox)<|an_ (bg_ hg (pB_ HB.out):w.heap.size≤gb196)<|D (bg_ hg (pB_ HB.out):w.heap.size≤gb196);clear HB;obtain ⟨HB,BK196,GW196,GE196⟩:=n_;clear hb hbox hg;have hcz7_0:=cells5 BK196.out))
   go_ret; exact ⟨er_, pB_ HB.out⟩
  ·rw [if_neg c5] at H
   have c5b0 : decide (64 < a0_0) = false := decide_eq_false c5; clear c5
   by_cases c8 : a0_1 < 1
   ·rw [if_pos c8] at H
    have c8b0 : decide (a0_1 < 1) = true := decide_eq_true c8; clear c8; obtain rfl := Option.some.inj H; go_enter Try.func12, Try.ntmps12
    go_wp2_with (first|((with_reducible refine gate_dst (N:=1) rfl ?_);refine bx_ (N:=1) (cs:=#[I L a0_0,I L a0_1,I L a0_2,I L a0_3,.bool a0_4]) (t:=40) ?_;intro gb196 hg w9 hbox hb;have n_:=an_ (below_step (pB_ HB.out) hb)<|an_ (hbox)<|an_ (bg_ hg (pB_ HB.out):w.heap.size≤gb196)<|D (bg_ hg (pB_ HB.out):w.heap.size≤gb196);clear HB;obtain ⟨HB,BK196,GW196,GE196⟩:=n_;clear hb hbox hg;have hcz10_0:=cells5 BK196.out))
    go_ret; exact ⟨er_, pB_ HB.out⟩
   ·rw [if_neg c8] at H
    have c8b0 : decide (a0_1 < 1) = false := decide_eq_false c8; clear c8; have HU11 := D H; clear H; go_enter Try.func12, Try.ntmps12
    go_upto_if 20 with (first|((with_reducible refine gate_dst (N:=1) rfl ?_);refine bx_ (N:=1) (cs:=#[I L a0_0,I L a0_1,I L a0_2,I L a0_3,.bool a0_4]) (t:=40) ?_;intro gb196 hg w12 hbox hb;have n_:=an_ (below_step (pB_ HB.out) hb)<|an_ (hbox)<|an_ (bg_ hg (pB_ HB.out):w.heap.size≤gb196)<|D (bg_ hg (pB_ HB.out):w.heap.size≤gb196);clear HB;obtain ⟨HB,BK196,GW196,GE196⟩:=n_;clear hb hbox hg;have hcz13_0:=cells5 BK196.out))
    have H := HU11.out; clear HU11
    by_cases c14 : a0_1 > 100000
    ·rw [if_pos c14] at H
     have c14b0:decide (100000 < a0_1)=true:=decide_eq_true c14;clear c14;refine rw_ c14b0 ?_;obtain rfl:=Option.some.inj H
     go_wp2
     go_ret; exact ⟨er_, pB_ HB.out⟩
    ·rw [if_neg c14] at H
     have c14b0:decide (100000 < a0_1)=false:=decide_eq_false c14;clear c14;refine rw_ c14b0 ?_
     by_cases c15 : a0_2 ≥ 1
     ·rw [if_pos c15] at H
      have c15b0 : decide (1 ≤ a0_2) = true := decide_eq_true c15; clear c15
      by_cases c16 : a0_2 ≤ 1000000
      ·rw [if_pos c16] at H
       have c16b0 : decide (a0_2 ≤ 1000000) = true := decide_eq_true c16; clear c16
       by_cases c17 : a0_3 ≥ 0
       ·rw [if_pos c17] at H
        have c17b0:decide (0≤a0_3)=true:=decide_eq_true c17;clear c17;obtain rfl:=Option.some.inj H;have hcz18_0:=cells5 BK196.out
        go_wp2
        go_ret; exact ⟨er_, pB_ HB.out⟩
       ·rw [if_neg c17] at H
        have c17b0:decide (0≤a0_3)=false:=decide_eq_false c17;clear c17;obtain rfl:=Option.some.inj H;have hcz19_0:=cells5 BK196.out
        go_wp2
        go_ret; exact ⟨er_, pB_ HB.out⟩
      ·rw [if_neg c16] at H
       have c16b0:decide (a0_2≤1000000)=false:=decide_eq_false c16;clear c16;obtain rfl:=Option.some.inj H;have hcz20_0:=cells5 BK196.out
       go_wp2
       go_ret; exact ⟨er_, pB_ HB.out⟩
     ·rw [if_neg c15] at H
      have c15b0:decide (1≤a0_2)=false:=decide_eq_false c15;clear c15;obtain rfl:=Option.some.inj H;have hcz21_0:=cells5 BK196.out
      go_wp2
      go_ret; exact ⟨er_, pB_ HB.out⟩

/-! ### spec_l05In: function 13 -/
def spec_l05In.f (a0 a1 : Int) : Option (Bool) := if a0 ≥ 0 then (some (decide (a0 ≤ a1))) else (some false)
set_option maxHeartbeats 8000000 in
set_option maxRecDepth 100000 in
theorem spec_l05In.calls (a0 a1 : Int) (r : Bool) (w : World) (h : spec_l05In.f a0 a1 = some r) :
  Calls Try.prog 13 #[I L a0, I L a1] w fun e w' => e = .returned (.bool r) ∧ Drawn0 w w' := by
 have H : (if a0 ≥ 0 then (some (decide (a0 ≤ a1))) else (some false)) = some r := h
 clear h
 by_cases c3 : a0 ≥ 0
 ·rw [if_pos c3] at H
  have c3b0 : decide (0 ≤ a0) = true := decide_eq_true c3; clear c3; obtain rfl := Option.some.inj H; go_enter Try.func13, Try.ntmps13
  go_wp2
  go_ret; exact ⟨by first | rfl | (simp; done) | (simp [*]; done), by repeat (first | exact Drawn0.refl _ | apply Drawn0.step)⟩
 ·rw [if_neg c3] at H
  have c3b0 : decide (0 ≤ a0) = false := decide_eq_false c3; clear c3; obtain rfl := Option.some.inj H; go_enter Try.func13, Try.ntmps13
  go_wp2
  go_ret; exact ⟨by first | rfl | (simp; done) | (simp [*]; done), by repeat (first | exact Drawn0.refl _ | apply Drawn0.step)⟩

/-! ### spec_l10Twins: function 45 -/
def spec_l10Twins.f (k : Nat) (a0_0 a0_1 a0_2 a0_3 a0_4 a0_5 a1_0 a1_1 a1_2 a1_3 a1_4 a1_5 : Int) : Option (Bool) := (spec_PrefixOk.f k a0_0 a0_1 a0_2 a0_3 a0_4 a0_5).bind fun t199 => (if t199 = true then ((spec_PrefixOk.f k a1_0 a1_1 a1_2 a1_3 a1_4 a1_5).bind fun t200 => (if t200 = true then ((spec_l03Any.f a0_0 a0_1 a0_2 a0_3 a0_4 a0_5).bind fun t201 => (if t201 = true then (some false) else ((spec_l03Any.f a1_0 a1_1 a1_2 a1_3 a1_4 a1_5).bind fun t202 => (if t202 = true then (some false) else (if a0_0 = a1_0 then (some (a0_5 == a1_5)) else (some false)))))) else (some false))) else (some false))
set_option maxHeartbeats 8000000 in
set_option maxRecDepth 100000 in
theorem spec_l10Twins.calls (k : Nat) (a0_0 a0_1 a0_2 a0_3 a0_4 a0_5 a1_0 a1_1 a1_2 a1_3 a1_4 a1_5 : Int) (r : Bool) (w : World) (h : spec_l10Twins.f k a0_0 a0_1 a0_2 a0_3 a0_4 a0_5 a1_0 a1_1 a1_2 a1_3 a1_4 a1_5 = some r) :
  Calls Try.prog 45 #[.agg #[I L a0_0,I L a0_1,I L a0_2,I L a0_3,I L a0_4,I L a0_5],.agg #[I L a1_0,I L a1_1,I L a1_2,I L a1_3,I L a1_4,I L a1_5]] w fun e w'=>e=.returned (.bool r)∧Below w.heap.size w w':=by
 have hu37 := Try.underlying37
 have HB := D (Below.refl w.heap.size w)
 have H:((spec_PrefixOk.f k a0_0 a0_1 a0_2 a0_3 a0_4 a0_5).bind fun Ub=>(if Ub=true then ((spec_PrefixOk.f k a1_0 a1_1 a1_2 a1_3 a1_4 a1_5).bind fun Xb=>(if Xb=true then ((spec_l03Any.f a0_0 a0_1 a0_2 a0_3 a0_4 a0_5).bind fun Jc=>(if Jc=true then (some false) else ((spec_l03Any.f a1_0 a1_1 a1_2 a1_3 a1_4 a1_5).bind fun Kc=>(if Kc=true then (some false) else (if a0_0=a1_0 then (some (a0_5 == a1_5)) else (some false)))))) else (some false))) else (some false)))=some r:=h
 clear h
 obtain ⟨Ub, A30, H⟩ := bs_.mp H
 (try dsimp only at H)
 have A3 := D A30
 clear A30
 by_cases c4 : Ub = true
 ·subst c4
  rw [if_pos rfl] at H; obtain ⟨Xb, A50, H⟩ := bs_.mp H; (try dsimp only at H); have A5 := D A50; clear A50
  by_cases c6 : Xb = true
  ·subst c6
   rw [if_pos rfl] at H; obtain ⟨Jc, A70, H⟩ := bs_.mp H; (try dsimp only at H); have A7 := D A70; clear A70
   by_cases c8 : Jc = true
   ·subst c8
    rw [if_pos rfl] at H; obtain rfl := Option.some.inj H; go_enter Try.func45, Try.ntmps45
    go_wp2_with (first|((with_reducible refine gate_dst (N:=2) rfl ?_);refine bx_ (N:=2) (cs:=#[I L a0_0,I L a0_1,I L a0_2,I L a0_3,I L a0_4,I L a0_5]) (t:=37) ?_;intro Ma hg w9 hbox hb;have n_:=an_ (below_step (pB_ HB.out) hb)<|an_ (hbox)<|an_ (bg_ hg (pB_ HB.out):w.heap.size≤Ma)<|D (bg_ hg (pB_ HB.out):w.heap.size≤Ma);clear HB;obtain ⟨HB,Ja,Jb,Kb⟩:=n_;clear hb hbox hg)|((with_reducible refine gate_dst (N:=3) rfl ?_);refine bx_ (N:=3) (cs:=#[I L a1_0,I L a1_1,I L a1_2,I L a1_3,I L a1_4,I L a1_5]) (t:=37) ?_;intro Oa hg w10 hbox hb;have n_:=an_ (blk_below (pk_ Ja.out) hb)<|an_ (below_step (pB_ HB.out) hb)<|an_ (hbox)<|an_ (bg_ hg (pB_ HB.out):w.heap.size≤Oa)<|an_ (bg_ hg (pB_ HB.out):w.heap.size≤Oa)<|an_ (nl_ hg (pk_ Ja.out):Ma≠Oa)<|D (by rw [hg];exact Nat.ne_of_gt (blk_lt (pk_ Ja.out)):Oa≠Ma);clear Ja HB;obtain ⟨Ja,HB,Ka,Mb,Ob,Ua,Xa⟩:=n_;clear hb hbox hg;(try have:=Ua.out);(try have:=Xa.out);have Mc:=cells6 Ja.out)|((with_reducible refine gate_callee (f:=27) rfl ?_);refine goesL_ (some 6) rfl rfl Try.func27 (by kernel_rfl) rfl #[.agg #[I L a0_0,I L a0_1,I L a0_2,I L a0_3,I L a0_4,I L a0_5]] rfl Z6 ?_;(with_reducible refine (spec_PrefixOk.calls k a0_0 a0_1 a0_2 a0_3 a0_4 a0_5 true _ A3.out).mono ?_);rintro e w13 ⟨rfl,hb⟩;refine ⟨_,rfl,?_⟩;have n_:=an_ (blk_below (pk_ Ja.out) hb)<|an_ (blk_below (pk_ Ka.out) hb)<|D (below_step (pB_ HB.out) hb);clear Ja Ka HB;obtain ⟨Ja,Ka,HB⟩:=n_;(try clear hb);have Me:=cells6 Ka.out)|(go_at_call 27;(with_reducible refine (spec_PrefixOk.calls k a1_0 a1_1 a1_2 a1_3 a1_4 a1_5 true _ A5.out).mono ?_);rintro e w15 ⟨rfl,hb⟩;have n_:=an_ (blk_below (pk_ Ja.out) hb)<|an_ (blk_below (pk_ Ka.out) hb)<|D (below_step (pB_ HB.out) hb);clear Ja Ka HB;obtain ⟨Ja,Ka,HB⟩:=n_;(try clear hb);have Mg:=cells6 Ja.out)|(go_at_call 41;(with_reducible refine (spec_l03Any.calls a0_0 a0_1 a0_2 a0_3 a0_4 a0_5 true _ A7.out).mono ?_);rintro e w17 ⟨rfl,hb⟩;have n_:=an_ (blk_below (pk_ Ja.out) hb)<|an_ (blk_below (pk_ Ka.out) hb)<|D (below_step (pB_ HB.out) hb);clear Ja Ka HB;obtain ⟨Ja,Ka,HB⟩:=n_;(try clear hb)))
    go_ret; exact ⟨er_, pB_ HB.out⟩
   ·replace c8 := Bool.eq_false_iff.mpr c8
    subst c8; rw [if_neg (show ¬ (false = true) by decide)] at H; obtain ⟨Kc, A180, H⟩ := bs_.mp H; (try dsimp only at H); have A18 := D A180; clear A180
    by_cases c19 : Kc = true
    ·subst c19
     rw [if_pos rfl] at H; obtain rfl := Option.some.inj H; go_enter Try.func45, Try.ntmps45
     go_wp2_with (first|((with_reducible refine gate_dst (N:=2) rfl ?_);refine bx_ (N:=2) (cs:=#[I L a0_0,I L a0_1,I L a0_2,I L a0_3,I L a0_4,I L a0_5]) (t:=37) ?_;intro Ma hg w20 hbox hb;have n_:=an_ (below_step (pB_ HB.out) hb)<|an_ (hbox)<|an_ (bg_ hg (pB_ HB.out):w.heap.size≤Ma)<|D (bg_ hg (pB_ HB.out):w.heap.size≤Ma);clear HB;obtain ⟨HB,Ja,Jb,Kb⟩:=n_;clear hb hbox hg)|((with_reducible refine gate_dst (N:=3) rfl ?_);refine bx_ (N:=3) (cs:=#[I L a1_0,I L a1_1,I L a1_2,I L a1_3,I L a1_4,I L a1_5]) (t:=37) ?_;intro Oa hg w21 hbox hb;have n_:=an_ (blk_below (pk_ Ja.out) hb)<|an_ (below_step (pB_ HB.out) hb)<|an_ (hbox)<|an_ (bg_ hg (pB_ HB.out):w.heap.size≤Oa)<|an_ (bg_ hg (pB_ HB.out):w.heap.size≤Oa)<|an_ (nl_ hg (pk_ Ja.out):Ma≠Oa)<|D (by rw [hg];exact Nat.ne_of_gt (blk_lt (pk_ Ja.out)):Oa≠Ma);clear Ja HB;obtain ⟨Ja,HB,Ka,Mb,Ob,Ua,Xa⟩:=n_;clear hb hbox hg;(try have:=Ua.out);(try have:=Xa.out);have Mi:=cells6 Ja.out)|((with_reducible refine gate_callee (f:=27) rfl ?_);refine goesL_ (some 6) rfl rfl Try.func27 (by kernel_rfl) rfl #[.agg #[I L a0_0,I L a0_1,I L a0_2,I L a0_3,I L a0_4,I L a0_5]] rfl Z6 ?_;(with_reducible refine (spec_PrefixOk.calls k a0_0 a0_1 a0_2 a0_3 a0_4 a0_5 true _ A3.out).mono ?_);rintro e w24 ⟨rfl,hb⟩;refine ⟨_,rfl,?_⟩;have n_:=an_ (blk_below (pk_ Ja.out) hb)<|an_ (blk_below (pk_ Ka.out) hb)<|D (below_step (pB_ HB.out) hb);clear Ja Ka HB;obtain ⟨Ja,Ka,HB⟩:=n_;(try clear hb);have Mk:=cells6 Ka.out)|(go_at_call 27;(with_reducible refine (spec_PrefixOk.calls k a1_0 a1_1 a1_2 a1_3 a1_4 a1_5 true _ A5.out).mono ?_);rintro e w26 ⟨rfl,hb⟩;have n_:=an_ (blk_below (pk_ Ja.out) hb)<|an_ (blk_below (pk_ Ka.out) hb)<|D (below_step (pB_ HB.out) hb);clear Ja Ka HB;obtain ⟨Ja,Ka,HB⟩:=n_;(try clear hb);have Mn:=cells6 Ja.out)|(go_at_call 41;(with_reducible refine (spec_l03Any.calls a0_0 a0_1 a0_2 a0_3 a0_4 a0_5 false _ A7.out).mono ?_);rintro e w28 ⟨rfl,hb⟩;have n_:=an_ (blk_below (pk_ Ja.out) hb)<|an_ (blk_below (pk_ Ka.out) hb)<|D (below_step (pB_ HB.out) hb);clear Ja Ka HB;obtain ⟨Ja,Ka,HB⟩:=n_;(try clear hb);have Mp:=cells6 Ka.out)|(go_at_call 41;(with_reducible refine (spec_l03Any.calls a1_0 a1_1 a1_2 a1_3 a1_4 a1_5 true _ A18.out).mono ?_);rintro e w30 ⟨rfl,hb⟩;have n_:=an_ (blk_below (pk_ Ja.out) hb)<|an_ (blk_below (pk_ Ka.out) hb)<|D (below_step (pB_ HB.out) hb);clear Ja Ka HB;obtain ⟨Ja,Ka,HB⟩:=n_;(try clear hb)))
     go_ret; exact ⟨er_, pB_ HB.out⟩
    ·replace c19 := Bool.eq_false_iff.mpr c19
     subst c19; rw [if_neg (show ¬ (false = true) by decide)] at H
     by_cases c31 : a0_0 = a1_0
     ·rw [if_pos c31] at H
      have c31b0:(a0_0 == a1_0)=true:=beq_iff_eq.mpr c31;have c31b1:(a0_0 != a1_0)=false:=bne_eq_false_iff_eq.mpr c31;clear c31;obtain rfl:=Option.some.inj H;go_enter Try.func45,Try.ntmps45
      go_wp2_with (first|((with_reducible refine gate_dst (N:=2) rfl ?_);refine bx_ (N:=2) (cs:=#[I L a0_0,I L a0_1,I L a0_2,I L a0_3,I L a0_4,I L a0_5]) (t:=37) ?_;intro Ma hg w32 hbox hb;have n_:=an_ (below_step (pB_ HB.out) hb)<|an_ (hbox)<|an_ (bg_ hg (pB_ HB.out):w.heap.size≤Ma)<|D (bg_ hg (pB_ HB.out):w.heap.size≤Ma);clear HB;obtain ⟨HB,Ja,Jb,Kb⟩:=n_;clear hb hbox hg)|((with_reducible refine gate_dst (N:=3) rfl ?_);refine bx_ (N:=3) (cs:=#[I L a1_0,I L a1_1,I L a1_2,I L a1_3,I L a1_4,I L a1_5]) (t:=37) ?_;intro Oa hg w33 hbox hb;have n_:=an_ (blk_below (pk_ Ja.out) hb)<|an_ (below_step (pB_ HB.out) hb)<|an_ (hbox)<|an_ (bg_ hg (pB_ HB.out):w.heap.size≤Oa)<|an_ (bg_ hg (pB_ HB.out):w.heap.size≤Oa)<|an_ (nl_ hg (pk_ Ja.out):Ma≠Oa)<|D (by rw [hg];exact Nat.ne_of_gt (blk_lt (pk_ Ja.out)):Oa≠Ma);clear Ja HB;obtain ⟨Ja,HB,Ka,Mb,Ob,Ua,Xa⟩:=n_;clear hb hbox hg;(try have:=Ua.out);(try have:=Xa.out);have Mr:=cells6 Ja.out)|((with_reducible refine gate_callee (f:=27) rfl ?_);refine goesL_ (some 6) rfl rfl Try.func27 (by kernel_rfl) rfl #[.agg #[I L a0_0,I L a0_1,I L a0_2,I L a0_3,I L a0_4,I L a0_5]] rfl Z6 ?_;(with_reducible refine (spec_PrefixOk.calls k a0_0 a0_1 a0_2 a0_3 a0_4 a0_5 true _ A3.out).mono ?_);rintro e w36 ⟨rfl,hb⟩;refine ⟨_,rfl,?_⟩;have n_:=an_ (blk_below (pk_ Ja.out) hb)<|an_ (blk_below (pk_ Ka.out) hb)<|D (below_step (pB_ HB.out) hb);clear Ja Ka HB;obtain ⟨Ja,Ka,HB⟩:=n_;(try clear hb);have Mu:=cells6 Ka.out)|(go_at_call 27;(with_reducible refine (spec_PrefixOk.calls k a1_0 a1_1 a1_2 a1_3 a1_4 a1_5 true _ A5.out).mono ?_);rintro e w38 ⟨rfl,hb⟩;have n_:=an_ (blk_below (pk_ Ja.out) hb)<|an_ (blk_below (pk_ Ka.out) hb)<|D (below_step (pB_ HB.out) hb);clear Ja Ka HB;obtain ⟨Ja,Ka,HB⟩:=n_;(try clear hb);have Mx:=cells6 Ja.out)|(go_at_call 41;(with_reducible refine (spec_l03Any.calls a0_0 a0_1 a0_2 a0_3 a0_4 a0_5 false _ A7.out).mono ?_);rintro e w40 ⟨rfl,hb⟩;have n_:=an_ (blk_below (pk_ Ja.out) hb)<|an_ (blk_below (pk_ Ka.out) hb)<|D (below_step (pB_ HB.out) hb);clear Ja Ka HB;obtain ⟨Ja,Ka,HB⟩:=n_;(try clear hb);have Mz:=cells6 Ka.out)|(go_at_call 41;(with_reducible refine (spec_l03Any.calls a1_0 a1_1 a1_2 a1_3 a1_4 a1_5 false _ A18.out).mono ?_);rintro e w42 ⟨rfl,hb⟩;have n_:=an_ (blk_below (pk_ Ja.out) hb)<|an_ (blk_below (pk_ Ka.out) hb)<|D (below_step (pB_ HB.out) hb);clear Ja Ka HB;obtain ⟨Ja,Ka,HB⟩:=n_;(try clear hb);have Mb1:=cells6 Ja.out;have Md1:=cells6 Ka.out))
      go_ret; exact ⟨er_, pB_ HB.out⟩
     ·rw [if_neg c31] at H
      have c31b0 : (a0_0 == a1_0) = false := beq_eq_false_iff_ne.mpr c31; have c31b1 : (a0_0 != a1_0) = true := bne_iff_ne.mpr c31; obtain rfl := Option.some.inj H; go_enter Try.func45, Try.ntmps45
      go_wp2_with (first|((with_reducible refine gate_dst (N:=2) rfl ?_);refine bx_ (N:=2) (cs:=#[I L a0_0,I L a0_1,I L a0_2,I L a0_3,I L a0_4,I L a0_5]) (t:=37) ?_;intro Ma hg w45 hbox hb;have n_:=an_ (below_step (pB_ HB.out) hb)<|an_ (hbox)<|an_ (bg_ hg (pB_ HB.out):w.heap.size≤Ma)<|D (bg_ hg (pB_ HB.out):w.heap.size≤Ma);clear HB;obtain ⟨HB,Ja,Jb,Kb⟩:=n_;clear hb hbox hg)|((with_reducible refine gate_dst (N:=3) rfl ?_);refine bx_ (N:=3) (cs:=#[I L a1_0,I L a1_1,I L a1_2,I L a1_3,I L a1_4,I L a1_5]) (t:=37) ?_;intro Oa hg w46 hbox hb;have n_:=an_ (blk_below (pk_ Ja.out) hb)<|an_ (below_step (pB_ HB.out) hb)<|an_ (hbox)<|an_ (bg_ hg (pB_ HB.out):w.heap.size≤Oa)<|an_ (bg_ hg (pB_ HB.out):w.heap.size≤Oa)<|an_ (nl_ hg (pk_ Ja.out):Ma≠Oa)<|D (by rw [hg];exact Nat.ne_of_gt (blk_lt (pk_ Ja.out)):Oa≠Ma);clear Ja HB;obtain ⟨Ja,HB,Ka,Mb,Ob,Ua,Xa⟩:=n_;clear hb hbox hg;(try have:=Ua.out);(try have:=Xa.out);have Mf1:=cells6 Ja.out)|((with_reducible refine gate_callee (f:=27) rfl ?_);refine goesL_ (some 6) rfl rfl Try.func27 (by kernel_rfl) rfl #[.agg #[I L a0_0,I L a0_1,I L a0_2,I L a0_3,I L a0_4,I L a0_5]] rfl Z6 ?_;(with_reducible refine (spec_PrefixOk.calls k a0_0 a0_1 a0_2 a0_3 a0_4 a0_5 true _ A3.out).mono ?_);rintro e w49 ⟨rfl,hb⟩;refine ⟨_,rfl,?_⟩;have n_:=an_ (blk_below (pk_ Ja.out) hb)<|an_ (blk_below (pk_ Ka.out) hb)<|D (below_step (pB_ HB.out) hb);clear Ja Ka HB;obtain ⟨Ja,Ka,HB⟩:=n_;(try clear hb);have Mh1:=cells6 Ka.out)|(go_at_call 27;(with_reducible refine (spec_PrefixOk.calls k a1_0 a1_1 a1_2 a1_3 a1_4 a1_5 true _ A5.out).mono ?_);rintro e w51 ⟨rfl,hb⟩;have n_:=an_ (blk_below (pk_ Ja.out) hb)<|an_ (blk_below (pk_ Ka.out) hb)<|D (below_step (pB_ HB.out) hb);clear Ja Ka HB;obtain ⟨Ja,Ka,HB⟩:=n_;(try clear hb);have Mj1:=cells6 Ja.out)|(go_at_call 41;(with_reducible refine (spec_l03Any.calls a0_0 a0_1 a0_2 a0_3 a0_4 a0_5 false _ A7.out).mono ?_);rintro e w53 ⟨rfl,hb⟩;have n_:=an_ (blk_below (pk_ Ja.out) hb)<|an_ (blk_below (pk_ Ka.out) hb)<|D (below_step (pB_ HB.out) hb);clear Ja Ka HB;obtain ⟨Ja,Ka,HB⟩:=n_;(try clear hb);have Mm1:=cells6 Ka.out)|(go_at_call 41;(with_reducible refine (spec_l03Any.calls a1_0 a1_1 a1_2 a1_3 a1_4 a1_5 false _ A18.out).mono ?_);rintro e w55 ⟨rfl,hb⟩;have n_:=an_ (blk_below (pk_ Ja.out) hb)<|an_ (blk_below (pk_ Ka.out) hb)<|D (below_step (pB_ HB.out) hb);clear Ja Ka HB;obtain ⟨Ja,Ka,HB⟩:=n_;(try clear hb);have Mo1:=cells6 Ja.out;have Mq1:=cells6 Ka.out))
      go_ret; exact ⟨er_, pB_ HB.out⟩
  ·replace c6 := Bool.eq_false_iff.mpr c6
   subst c6; rw [if_neg (show ¬ (false = true) by decide)] at H; obtain rfl := Option.some.inj H; go_enter Try.func45, Try.ntmps45
   go_wp2_with (first|((with_reducible refine gate_dst (N:=2) rfl ?_);refine bx_ (N:=2) (cs:=#[I L a0_0,I L a0_1,I L a0_2,I L a0_3,I L a0_4,I L a0_5]) (t:=37) ?_;intro Ma hg w58 hbox hb;have n_:=an_ (below_step (pB_ HB.out) hb)<|an_ (hbox)<|an_ (bg_ hg (pB_ HB.out):w.heap.size≤Ma)<|D (bg_ hg (pB_ HB.out):w.heap.size≤Ma);clear HB;obtain ⟨HB,Ja,Jb,Kb⟩:=n_;clear hb hbox hg)|((with_reducible refine gate_dst (N:=3) rfl ?_);refine bx_ (N:=3) (cs:=#[I L a1_0,I L a1_1,I L a1_2,I L a1_3,I L a1_4,I L a1_5]) (t:=37) ?_;intro Oa hg w59 hbox hb;have n_:=an_ (blk_below (pk_ Ja.out) hb)<|an_ (below_step (pB_ HB.out) hb)<|an_ (hbox)<|an_ (bg_ hg (pB_ HB.out):w.heap.size≤Oa)<|an_ (bg_ hg (pB_ HB.out):w.heap.size≤Oa)<|an_ (nl_ hg (pk_ Ja.out):Ma≠Oa)<|D (by rw [hg];exact Nat.ne_of_gt (blk_lt (pk_ Ja.out)):Oa≠Ma);clear Ja HB;obtain ⟨Ja,HB,Ka,Mb,Ob,Ua,Xa⟩:=n_;clear hb hbox hg;(try have:=Ua.out);(try have:=Xa.out);have Ms1:=cells6 Ja.out)|((with_reducible refine gate_callee (f:=27) rfl ?_);refine goesL_ (some 6) rfl rfl Try.func27 (by kernel_rfl) rfl #[.agg #[I L a0_0,I L a0_1,I L a0_2,I L a0_3,I L a0_4,I L a0_5]] rfl Z6 ?_;(with_reducible refine (spec_PrefixOk.calls k a0_0 a0_1 a0_2 a0_3 a0_4 a0_5 true _ A3.out).mono ?_);rintro e w62 ⟨rfl,hb⟩;refine ⟨_,rfl,?_⟩;have n_:=an_ (blk_below (pk_ Ja.out) hb)<|an_ (blk_below (pk_ Ka.out) hb)<|D (below_step (pB_ HB.out) hb);clear Ja Ka HB;obtain ⟨Ja,Ka,HB⟩:=n_;(try clear hb);have Mv1:=cells6 Ka.out)|(go_at_call 27;(with_reducible refine (spec_PrefixOk.calls k a1_0 a1_1 a1_2 a1_3 a1_4 a1_5 false _ A5.out).mono ?_);rintro e w64 ⟨rfl,hb⟩;have n_:=an_ (blk_below (pk_ Ja.out) hb)<|an_ (blk_below (pk_ Ka.out) hb)<|D (below_step (pB_ HB.out) hb);clear Ja Ka HB;obtain ⟨Ja,Ka,HB⟩:=n_;(try clear hb)))
   go_ret; exact ⟨er_, pB_ HB.out⟩
 ·replace c4 := Bool.eq_false_iff.mpr c4
  subst c4; rw [if_neg (show ¬ (false = true) by decide)] at H; obtain rfl := Option.some.inj H; go_enter Try.func45, Try.ntmps45
  go_wp2_with (first|((with_reducible refine gate_dst (N:=2) rfl ?_);refine bx_ (N:=2) (cs:=#[I L a0_0,I L a0_1,I L a0_2,I L a0_3,I L a0_4,I L a0_5]) (t:=37) ?_;intro Ma hg w65 hbox hb;have n_:=an_ (below_step (pB_ HB.out) hb)<|an_ (hbox)<|an_ (bg_ hg (pB_ HB.out):w.heap.size≤Ma)<|D (bg_ hg (pB_ HB.out):w.heap.size≤Ma);clear HB;obtain ⟨HB,Ja,Jb,Kb⟩:=n_;clear hb hbox hg)|((with_reducible refine gate_dst (N:=3) rfl ?_);refine bx_ (N:=3) (cs:=#[I L a1_0,I L a1_1,I L a1_2,I L a1_3,I L a1_4,I L a1_5]) (t:=37) ?_;intro Oa hg w66 hbox hb;have n_:=an_ (blk_below (pk_ Ja.out) hb)<|an_ (below_step (pB_ HB.out) hb)<|an_ (hbox)<|an_ (bg_ hg (pB_ HB.out):w.heap.size≤Oa)<|an_ (bg_ hg (pB_ HB.out):w.heap.size≤Oa)<|an_ (nl_ hg (pk_ Ja.out):Ma≠Oa)<|D (by rw [hg];exact Nat.ne_of_gt (blk_lt (pk_ Ja.out)):Oa≠Ma);clear Ja HB;obtain ⟨Ja,HB,Ka,Mb,Ob,Ua,Xa⟩:=n_;clear hb hbox hg;(try have:=Ua.out);(try have:=Xa.out);have My1:=cells6 Ja.out)|((with_reducible refine gate_callee (f:=27) rfl ?_);refine goesL_ (some 6) rfl rfl Try.func27 (by kernel_rfl) rfl #[.agg #[I L a0_0,I L a0_1,I L a0_2,I L a0_3,I L a0_4,I L a0_5]] rfl Z6 ?_;(with_reducible refine (spec_PrefixOk.calls k a0_0 a0_1 a0_2 a0_3 a0_4 a0_5 false _ A3.out).mono ?_);rintro e w69 ⟨rfl,hb⟩;refine ⟨_,rfl,?_⟩;have n_:=an_ (blk_below (pk_ Ja.out) hb)<|an_ (blk_below (pk_ Ka.out) hb)<|D (below_step (pB_ HB.out) hb);clear Ja Ka HB;obtain ⟨Ja,Ka,HB⟩:=n_;(try clear hb)))
  go_ret; exact ⟨er_, pB_ HB.out⟩

end Go.Proofs.Ytjhgkonacdimfab.PFnExactCmdOk
