-- by a program of this session's, over the kit's words
import Derived.Test.YtjhgkonacdimfaaPZFnTurnedKey
import Derived.Test.YtjhgkonacdimfaaPFnTurnedKeyx0
import Derived.Test.YtjhgkonacdimfaaPFnTurnedKeyx1
import Derived.Test.YtjhgkonacdimfaaPFnTurnedKeyx4
import Derived.Test.YtjhgkonacdimfaaPFnTurnedKeyx6
import Derived.Test.YtjhgkonacdimfaaPFnTurnedKeyx18
import Derived.Test.YtjhgkonacdimfaaPFnTurnedKeyx19
namespace Go.Proofs.Ytjhgkonacdimfaa.PFnTurnedKey
open Go.RowKit Go.Proofs.YtjhgkonacdimfaaW.PrintWords Go.Proofs.YtjhgkonacdimfaaW.PrintLast Go.Proofs.YtjhgkonacdimfaaW.PrintMore Go.Proofs.YtjhgkonacdimfaaV Go.Proofs.Ytjhgkonacdimfaa.ZFnTurnedKey
open Go.Value renaming int → I, slice → Y
open Go.IntKind renaming i64 → L
open Aside0 renaming mk → D
open Option renaming bind_eq_some_iff → bs_
attribute [local go_sem] max2_int min2_int max_two min_two max_three min_three max_four min_four   -- for this text's walks alone
set_option linter.unusedVariables false
set_option linter.unusedSimpArgs false

attribute [local go_sem high] eqA25
/-! ### spec_PrefixHas: function 20 -/
def spec_PrefixHas.j0 : Nat → Bool → Int → Int → Int → Int → Int → Int → Int → Int → Int → Int → Int → Option (Bool)
 | 0, _, _, _, _, _, _, _, _, _, _, _, _ => none
 | k + 1,x12,x849000,x849001,x849002,x849003,x849004,x849005,x850000,x850001,x850002,x850003,x850004=>if x12=true then (some false) else ((spec_l03Any.f x849000 x849001 x849002 x849003 x849004 x849005).bind fun t852=>(if t852=true then (some true) else (if x849000=x850000 then ((spec_Cut.f k x850000 x850001 x850002 x850003 x850004 x849005).bind fun bt853=>(some (bt853.1 == x849000 && (bt853.2.1 == x849001 && (bt853.2.2.1 == x849002 && (bt853.2.2.2.1 == x849003 && (bt853.2.2.2.2 == x849004))))))) else (some false))))
def spec_PrefixHas.f (k : Nat) (a0_0 a0_1 a0_2 a0_3 a0_4 a0_5 a1_0 a1_1 a1_2 a1_3 a1_4 : Int) : Option (Bool) := (spec_PrefixOk.f k a0_0 a0_1 a0_2 a0_3 a0_4 a0_5).bind fun t850 => (if t850 = true then ((spec_AddrOk.f a1_0 a1_1 a1_2 a1_3 a1_4).bind fun t851 => (spec_PrefixHas.j0 k (!t851) a0_0 a0_1 a0_2 a0_3 a0_4 a0_5 a1_0 a1_1 a1_2 a1_3 a1_4)) else (spec_PrefixHas.j0 k true a0_0 a0_1 a0_2 a0_3 a0_4 a0_5 a1_0 a1_1 a1_2 a1_3 a1_4))
def spec_PrefixHas.T3 : Bool × List (List Nat × List Nat) := (true, [([], []), ([0], [0]), ([1, 1], [1]), ([2], [2]), ([3, 2], [2, 3]), ([4, 2], [2, 4]), ([2], [2]), ([6, 2], [2, 6]), ([5, 7, 2], [2, 5, 7]), ([8, 2, 2], [2, 8]), ([9], [9]), ([9], [9]), ([11, 9], [9, 11]), ([10, 12, 9, 9], [9, 10, 12]), ([9], [9]), ([14, 9], [9, 14]), ([13, 15, 9], [9, 13, 15]), ([9, 16, 2], [2, 9, 16]), ([2, 17], [2, 17]), ([18, 13, 0, 1, 2, 3, 4, 5, 6, 7, 8, 9, 10, 11, 12, 13, 14, 15, 16, 17, 18], [18])])
def spec_PrefixHas.B3 : List Nat := [0, 1, 3, 7, 15, 31, 7, 71, 255, 511, 1023, 1023, 3071, 8191, 1023, 17407, 65535, 131071, 262143, 524287]
theorem spec_PrefixHas.tab3 : rtab .any (opsOf Try.f20 3) = spec_PrefixHas.T3 := by kernel_rfl
theorem spec_PrefixHas.bits3 : waitsOk spec_PrefixHas.T3.2 spec_PrefixHas.B3 = true := by kernel_rfl
set_option maxHeartbeats 8000000 in
set_option maxRecDepth 100000 in
theorem spec_PrefixHas.calls (k : Nat) (a0_0 a0_1 a0_2 a0_3 a0_4 a0_5 a1_0 a1_1 a1_2 a1_3 a1_4 : Int) (r : Bool) (w : World) (h : spec_PrefixHas.f k a0_0 a0_1 a0_2 a0_3 a0_4 a0_5 a1_0 a1_1 a1_2 a1_3 a1_4 = some r) :
  Calls Try.prog 20 #[.agg #[I L a0_0,I L a0_1,I L a0_2,I L a0_3,I L a0_4,I L a0_5],.agg #[I L a1_0,I L a1_1,I L a1_2,I L a1_3,I L a1_4]] w fun e w'=>e=.returned (.bool r)∧Below w.heap.size w w':=by
 have hu27 := Try.underlying27
 have hu25 := Try.underlying25
 have HB := D (Below.refl w.heap.size w)
 have H:((spec_PrefixOk.f k a0_0 a0_1 a0_2 a0_3 a0_4 a0_5).bind fun Jb=>(if Jb=true then ((spec_AddrOk.f a1_0 a1_1 a1_2 a1_3 a1_4).bind fun Ua=>(spec_PrefixHas.j0 k (!Ua) a0_0 a0_1 a0_2 a0_3 a0_4 a0_5 a1_0 a1_1 a1_2 a1_3 a1_4)) else (spec_PrefixHas.j0 k true a0_0 a0_1 a0_2 a0_3 a0_4 a0_5 a1_0 a1_1 a1_2 a1_3 a1_4)))=some r:=h
 clear h
 have HC3 := D H
 clear H
 go_enter Try.func20, Try.ntmps20
 go_upto_region 1 with (first|((with_reducible refine gate_dst (N:=2) rfl ?_);refine bx_ (N:=2) (cs:=#[I L a0_0,I L a0_1,I L a0_2,I L a0_3,I L a0_4,I L a0_5]) (t:=27) ?_;intro Ma hg w4 hbox hb;have n_:=an_ (below_step (pB_ HB.out) hb)<|an_ (hbox)<|an_ (bg_ hg (pB_ HB.out):w.heap.size≤Ma)<|D (bg_ hg (pB_ HB.out):w.heap.size≤Ma);clear HB;obtain ⟨HB,Ja,Ki,Mi⟩:=n_;clear hb hbox hg)|((with_reducible refine gate_dst (N:=3) rfl ?_);refine bx_ (N:=3) (cs:=#[I L a1_0,I L a1_1,I L a1_2,I L a1_3,I L a1_4]) (t:=25) ?_;intro Oa hg w5 hbox hb;have n_:=an_ (blk_below (pk_ Ja.out) hb)<|an_ (below_step (pB_ HB.out) hb)<|an_ (hbox)<|an_ (bg_ hg (pB_ HB.out):w.heap.size≤Oa)<|an_ (bg_ hg (pB_ HB.out):w.heap.size≤Oa)<|an_ (nl_ hg (pk_ Ja.out):Ma≠Oa)<|D (by rw [hg];exact Nat.ne_of_gt (blk_lt (pk_ Ja.out)):Oa≠Ma);clear Ja HB;obtain ⟨Ja,HB,Ka,Oi,Ui,Kb,Mb⟩:=n_;clear hb hbox hg))
 (try simp only [Act.put, List.setIfInBounds_toArray, List.set_cons_zero, List.set_cons_succ])
 go_cut [12] (fun v12 wc=>∃ (kq:Nat) (Xa:Bool),v12=.bool Xa∧Aside0 (spec_PrefixHas.j0 kq Xa a0_0 a0_1 a0_2 a0_3 a0_4 a0_5 a1_0 a1_1 a1_2 a1_3 a1_4=some r)∧Aside0 (kq≤k)∧Aside0 (wc.heap[Ma]?=some (.cells #[I L a0_0,I L a0_1,I L a0_2,I L a0_3,I L a0_4,I L a0_5] 27 (0,0)))∧Aside0 (wc.heap[Oa]?=some (.cells #[I L a1_0,I L a1_1,I L a1_2,I L a1_3,I L a1_4] 25 (0,0)))∧Aside0 (Below w.heap.size w wc))
 case first =>
  have H := HC3.out; clear HC3; obtain ⟨Jb, A60, H⟩ := bs_.mp H; (try dsimp only at H); have A6 := D A60; clear A60
  by_cases c7 : Jb = true
  ·subst c7
   rw [if_pos rfl] at H;obtain ⟨Ua,A80,H⟩:=bs_.mp H;(try dsimp only at H);have A8:=D A80;clear A80;have H':=D H;clear H;(try have:=Kb.out);(try have:=Mb.out);have Ob:=cells6 Ja.out
   go_wp2_with (first|((with_reducible refine gate_callee (f:=35) rfl ?_);refine goesL_ (some 6) rfl rfl Try.func35 (by kernel_rfl) rfl #[.agg #[I L a0_0,I L a0_1,I L a0_2,I L a0_3,I L a0_4,I L a0_5]] rfl Z8 ?_;(with_reducible refine (spec_PrefixOk.calls k a0_0 a0_1 a0_2 a0_3 a0_4 a0_5 true _ A6.out).mono ?_);rintro e w11 ⟨rfl,hb⟩;refine ⟨_,rfl,?_⟩;have n_:=an_ (blk_below (pk_ Ja.out) hb)<|an_ (blk_below (pk_ Ka.out) hb)<|D (below_step (pB_ HB.out) hb);clear Ja Ka HB;obtain ⟨Ja,Ka,HB⟩:=n_;(try clear hb);have Od:=cells5 Ka.out)|(go_at_call 27;(with_reducible refine (spec_AddrOk.calls a1_0 a1_1 a1_2 a1_3 a1_4 Ua _ A8.out).mono ?_);rintro e w13 ⟨rfl,hb⟩;have n_:=an_ (blk_below (pk_ Ja.out) hb)<|an_ (blk_below (pk_ Ka.out) hb)<|D (below_step (pB_ HB.out) hb);clear Ja Ka HB;obtain ⟨Ja,Ka,HB⟩:=n_;(try clear hb)))
   go_meet
   case rel => exact ⟨_, (!Ua), Z17, H', ⟨by first | omega | exact Nat.le_refl _⟩, ⟨pk_ Ja.out⟩, ⟨pk_ Ka.out⟩, ⟨pB_ HB.out⟩⟩
  ·replace c7 := Bool.eq_false_iff.mpr c7
   subst c7;rw [if_neg (show ¬ (false=true) by decide)] at H;have H':=D H;clear H;(try have:=Kb.out);(try have:=Mb.out);have Kf:=cells6 Ja.out
   go_wp2_with (first|((with_reducible refine gate_callee (f:=35) rfl ?_);refine goesL_ (some 6) rfl rfl Try.func35 (by kernel_rfl) rfl #[.agg #[I L a0_0,I L a0_1,I L a0_2,I L a0_3,I L a0_4,I L a0_5]] rfl Z8 ?_;(with_reducible refine (spec_PrefixOk.calls k a0_0 a0_1 a0_2 a0_3 a0_4 a0_5 false _ A6.out).mono ?_);rintro e w16 ⟨rfl,hb⟩;refine ⟨_,rfl,?_⟩;have n_:=an_ (blk_below (pk_ Ja.out) hb)<|an_ (blk_below (pk_ Ka.out) hb)<|D (below_step (pB_ HB.out) hb);clear Ja Ka HB;obtain ⟨Ja,Ka,HB⟩:=n_;(try clear hb)))
   go_meet
   case rel => exact ⟨_, (true), Z17, H', ⟨by first | omega | exact Nat.le_refl _⟩, ⟨pk_ Ja.out⟩, ⟨pk_ Ka.out⟩, ⟨pB_ HB.out⟩⟩
 case rest =>
  clear HC3
  (try clear c1);(try clear c2);(try clear p2);(try clear c3);(try clear c7);(try clear c9);(try clear c14);(try clear Ob);(try clear Od);(try clear Kf)
  obtain ⟨kq, Xa, rfl, HA, HJ2, Ja, Ka, HB⟩ := hcut
  cases kq with
  | zero => exact absurd HA.out (by simp [spec_PrefixHas.j0])
  | succ kj2 =>
   have H := HA.out; clear HA; simp only [spec_PrefixHas.j0] at H
   by_cases c17 : Xa = true
   ·subst c17
    rw [if_pos rfl] at H; obtain rfl := Option.some.inj H
    go_wp2
    go_ret; exact ⟨er_, pB_ HB.out⟩
   ·replace c17 := Bool.eq_false_iff.mpr c17
    subst c17; rw [if_neg (show ¬ (false = true) by decide)] at H; obtain ⟨Kh, A180, H⟩ := bs_.mp H; (try dsimp only at H); have A18 := D A180; clear A180
    by_cases c19 : Kh = true
    ·subst c19
     rw [if_pos rfl] at H; obtain rfl := Option.some.inj H
     try go_wp2
     have n_ := an_ (blk_drew Ja.out) <| an_ (blk_drew Ka.out) <| D (below_drew1 HB.out)
     clear Ja Ka HB;obtain ⟨Ja,Ka,HB⟩:=n_;refine start_ (n:=20) (S:=fun w'=>w'.cell? ⟨Ma,0,none⟩=some (I L a0_0)∧w'.cell? ⟨Ma,1,none⟩=some (I L a0_1)∧w'.cell? ⟨Ma,2,none⟩=some (I L a0_2)∧w'.cell? ⟨Ma,3,none⟩=some (I L a0_3)∧w'.cell? ⟨Ma,4,none⟩=some (I L a0_4)∧w'.cell? ⟨Ma,5,none⟩=some (I L a0_5)) (ds:=[]) (bz 20 0) (by kernel_rfl) rfl (by kernel_rfl) (be6_ Ja.out) (fun hHeld=>?_);refine with_tabW spec_PrefixHas.tab3 spec_PrefixHas.bits3 (fun HT_ HW_=>?_);generalize wc.drew=w20 at Ja Ka HB hHeld ⊢;refine tb_ 0 rfl rfl hHeld Z14 ?_;refine oa_ 1 14 20 3 HT_ (fun K hK=>?_);refine goes_ Try.func37 (by kernel_rfl) rfl #[.agg #[I L a0_0,I L a0_1,I L a0_2,I L a0_3,I L a0_4,I L a0_5]] (by rfl) rfl rfl Z8 ?_;with_reducible refine (spec_l03Any.calls a0_0 a0_1 a0_2 a0_3 a0_4 a0_5 true _ A18.out).mono ?_
     rintro e w21 ⟨rfl, hb⟩; refine ⟨_, rfl, ?_⟩
     have n_ := an_ (blk_below (pk_ Ja.out) hb) <| an_ (blk_below (pk_ Ka.out) hb) <| D (below_step (pB_ HB.out) hb)
     clear Ja Ka HB;obtain ⟨Ja,Ka,HB⟩:=n_;refine hK.out _ _ (be6_ Ja.out) (fun hHeld=>?_);clear hK K;refine nx_ (N:=some 14) ?_;refine pb_ 2 ?_;refine ob_ 3 ?_;refine ob_ 4 ?_;refine ob_ 5 ?_;refine ob_ 6 ?_;refine ob_ 7 ?_;refine ob_ 8 ?_;refine ob_ 9 ?_;refine ob_ 10 ?_;refine ob_ 11 ?_;refine ob_ 12 ?_;refine ob_ 13 ?_;refine ob_ 14 ?_;refine ob_ 15 ?_;refine ob_ 16 ?_;refine ob_ 17 ?_;refine pb_ 18 ?_;refine pb_ 19 ?_;refine done_ (done_of HT_.out (by kernel_rfl)) ?_
     try go_wp2
     go_ret; exact ⟨er_, pB_ HB.out⟩
    ·replace c19 := Bool.eq_false_iff.mpr c19
     subst c19; rw [if_neg (show ¬ (false = true) by decide)] at H
     by_cases c22 : a0_0 = a1_0
     ·rw [if_pos c22] at H
      have c22b0:(a0_0 == a1_0)=true:=beq_iff_eq.mpr c22;have c22b1:(a0_0 != a1_0)=false:=bne_eq_false_iff_eq.mpr c22;clear c22;obtain ⟨⟨Mh,Oh,Uh,Xh,Ji⟩,A230,H⟩:=bs_.mp H;(try dsimp only at H);have A23:=D A230;clear A230;obtain rfl:=Option.some.inj H
      try go_wp2
      have n_ := an_ (blk_drew Ja.out) <| an_ (blk_drew Ka.out) <| D (below_drew1 HB.out)
      clear Ja Ka HB;obtain ⟨Ja,Ka,HB⟩:=n_;refine start_ (n:=20) (S:=fun w'=>w'.cell? ⟨Ma,0,none⟩=some (I L a0_0)∧w'.cell? ⟨Ma,1,none⟩=some (I L a0_1)∧w'.cell? ⟨Ma,2,none⟩=some (I L a0_2)∧w'.cell? ⟨Ma,3,none⟩=some (I L a0_3)∧w'.cell? ⟨Ma,4,none⟩=some (I L a0_4)∧w'.cell? ⟨Ma,5,none⟩=some (I L a0_5)∧w'.cell? ⟨Oa,0,none⟩=some (I L a1_0)∧w'.cell? ⟨Oa,1,none⟩=some (I L a1_1)∧w'.cell? ⟨Oa,2,none⟩=some (I L a1_2)∧w'.cell? ⟨Oa,3,none⟩=some (I L a1_3)∧w'.cell? ⟨Oa,4,none⟩=some (I L a1_4)) (ds:=[]) (bz 20 0) (by kernel_rfl) rfl (by kernel_rfl) (bk6_ Ja.out (be5_ Ka.out)) (fun hHeld=>?_);refine with_tabW spec_PrefixHas.tab3 spec_PrefixHas.bits3 (fun HT_ HW_=>?_);generalize wc.drew=w24 at Ja Ka HB hHeld ⊢;refine tb_ 0 rfl rfl hHeld Z12 ?_;refine oa_ 1 14 20 3 HT_ (fun K hK=>?_);refine goes_ Try.func37 (by kernel_rfl) rfl #[.agg #[I L a0_0,I L a0_1,I L a0_2,I L a0_3,I L a0_4,I L a0_5]] (by rfl) rfl rfl Z8 ?_;with_reducible refine (spec_l03Any.calls a0_0 a0_1 a0_2 a0_3 a0_4 a0_5 false _ A18.out).mono ?_
      rintro e w25 ⟨rfl, hb⟩; refine ⟨_, rfl, ?_⟩
      have n_ := an_ (blk_below (pk_ Ja.out) hb) <| an_ (blk_below (pk_ Ka.out) hb) <| D (below_step (pB_ HB.out) hb)
      clear Ja Ka HB;obtain ⟨Ja,Ka,HB⟩:=n_;refine hK.out _ _ (bk6_ Ja.out (be5_ Ka.out)) (fun hHeld=>?_);clear hK K;refine nx_ (N:=some 14) ?_;refine pb_ 2 ?_;refine pb_ 3 ?_;refine pb_ 4 ?_;refine pb_ 6 ?_;refine tb_ 5 rfl rfl hHeld Z12 ?_;refine tb_ 7 rfl rfl hHeld Z12 ?_;refine pb_ 8 ?_;refine pb_ 9 ?_;refine pb_ 11 ?_;refine pb_ 14 ?_;refine tb_ 10 rfl rfl hHeld Z12 ?_;refine tb_ 12 rfl rfl hHeld Z12 ?_;refine tb_ 15 rfl rfl hHeld Z12 ?_;refine oa_ 13 26 20 65535 HT_ (fun K hK=>?_);refine goes_ Try.func38 (by kernel_rfl) rfl #[.agg #[I L a1_0,I L a1_1,I L a1_2,I L a1_3,I L a1_4],I L a0_5] (by rfl) rfl rfl Z8 ?_;with_reducible refine (spec_Cut.calls kj2 a1_0 a1_1 a1_2 a1_3 a1_4 a0_5 Mh Oh Uh Xh Ji _ A23.out).mono ?_
      rintro e w26 ⟨rfl, hb⟩; refine ⟨_, rfl, ?_⟩
      have n_ := an_ (blk_below (pk_ Ja.out) hb) <| an_ (blk_below (pk_ Ka.out) hb) <| D (below_step (pB_ HB.out) hb)
      clear Ja Ka HB;obtain ⟨Ja,Ka,HB⟩:=n_;refine hK.out _ _ (bk6_ Ja.out (be5_ Ka.out)) (fun hHeld=>?_);clear hK K;refine nx_ (N:=some 26) ?_;refine pb_ 16 ?_;refine pb_ 17 ?_;refine pb_ 18 ?_;refine pb_ 19 ?_;refine done_ (done_of HT_.out (by kernel_rfl)) ?_
      try go_wp2
      go_ret; exact ⟨er_, pB_ HB.out⟩
     ·rw [if_neg c22] at H
      have c22b0 : (a0_0 == a1_0) = false := beq_eq_false_iff_ne.mpr c22; have c22b1 : (a0_0 != a1_0) = true := bne_iff_ne.mpr c22; obtain rfl := Option.some.inj H
      try go_wp2
      have n_ := an_ (blk_drew Ja.out) <| an_ (blk_drew Ka.out) <| D (below_drew1 HB.out)
      clear Ja Ka HB;obtain ⟨Ja,Ka,HB⟩:=n_;refine start_ (n:=20) (S:=fun w'=>w'.cell? ⟨Ma,0,none⟩=some (I L a0_0)∧w'.cell? ⟨Ma,1,none⟩=some (I L a0_1)∧w'.cell? ⟨Ma,2,none⟩=some (I L a0_2)∧w'.cell? ⟨Ma,3,none⟩=some (I L a0_3)∧w'.cell? ⟨Ma,4,none⟩=some (I L a0_4)∧w'.cell? ⟨Ma,5,none⟩=some (I L a0_5)∧w'.cell? ⟨Oa,0,none⟩=some (I L a1_0)∧w'.cell? ⟨Oa,1,none⟩=some (I L a1_1)∧w'.cell? ⟨Oa,2,none⟩=some (I L a1_2)∧w'.cell? ⟨Oa,3,none⟩=some (I L a1_3)∧w'.cell? ⟨Oa,4,none⟩=some (I L a1_4)) (ds:=[]) (bz 20 0) (by kernel_rfl) rfl (by kernel_rfl) (bk6_ Ja.out (be5_ Ka.out)) (fun hHeld=>?_);refine with_tabW spec_PrefixHas.tab3 spec_PrefixHas.bits3 (fun HT_ HW_=>?_);generalize wc.drew=w27 at Ja Ka HB hHeld ⊢;refine tb_ 0 rfl rfl hHeld Z12 ?_;refine oa_ 1 14 20 3 HT_ (fun K hK=>?_);refine goes_ Try.func37 (by kernel_rfl) rfl #[.agg #[I L a0_0,I L a0_1,I L a0_2,I L a0_3,I L a0_4,I L a0_5]] (by rfl) rfl rfl Z8 ?_;with_reducible refine (spec_l03Any.calls a0_0 a0_1 a0_2 a0_3 a0_4 a0_5 false _ A18.out).mono ?_
      rintro e w28 ⟨rfl, hb⟩; refine ⟨_, rfl, ?_⟩
      have n_ := an_ (blk_below (pk_ Ja.out) hb) <| an_ (blk_below (pk_ Ka.out) hb) <| D (below_step (pB_ HB.out) hb)
      clear Ja Ka HB;obtain ⟨Ja,Ka,HB⟩:=n_;refine hK.out _ _ (bk6_ Ja.out (be5_ Ka.out)) (fun hHeld=>?_);clear hK K;refine nx_ (N:=some 14) ?_;refine pb_ 2 ?_;refine pb_ 3 ?_;refine pb_ 4 ?_;refine pb_ 6 ?_;refine tb_ 5 rfl rfl hHeld Z12 ?_;refine tb_ 7 rfl rfl hHeld Z12 ?_;refine pb_ 8 ?_;refine pb_ 9 ?_;refine ob_ 10 ?_;refine ob_ 11 ?_;refine ob_ 12 ?_;refine ob_ 13 ?_;refine ob_ 14 ?_;refine ob_ 15 ?_;refine ob_ 16 ?_;refine pb_ 17 ?_;refine pb_ 18 ?_;refine pb_ 19 ?_;refine done_ (done_of HT_.out (by kernel_rfl)) ?_
      try go_wp2
      go_ret; exact ⟨er_, pB_ HB.out⟩

end Go.Proofs.Ytjhgkonacdimfaa.PFnTurnedKey
