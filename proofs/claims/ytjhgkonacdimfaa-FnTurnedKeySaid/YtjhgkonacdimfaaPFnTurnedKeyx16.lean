-- by a program of this session's, over the kit's words
import Derived.Test.YtjhgkonacdimfaaPZFnTurnedKey
import Derived.Test.YtjhgkonacdimfaaPFnTurnedKeyx0
import Derived.Test.YtjhgkonacdimfaaPFnTurnedKeyx1
import Derived.Test.YtjhgkonacdimfaaPFnTurnedKeyx13
import Derived.Test.YtjhgkonacdimfaaPFnTurnedKeyx15
namespace Go.Proofs.Ytjhgkonacdimfaa.PFnTurnedKey
open Go.RowKit Go.Proofs.YtjhgkonacdimfaaW.PrintWords Go.Proofs.YtjhgkonacdimfaaW.PrintLast Go.Proofs.YtjhgkonacdimfaaW.PrintMore Go.Proofs.YtjhgkonacdimfaaV Go.Proofs.Ytjhgkonacdimfaa.ZFnTurnedKey
open Go.Value renaming int → I, slice → Y
open Go.IntKind renaming i64 → L
open Aside0 renaming mk → D
open Option renaming bind_eq_some_iff → bs_
attribute [local go_sem] max2_int min2_int max_two min_two max_three min_three max_four min_four   -- for this text's walks alone
set_option linter.unusedVariables false
set_option linter.unusedSimpArgs false

attribute [local go_sem high] eqA25
/-! ### impl_PrefixOk: function 32 -/
def impl_PrefixOk.f (k : Nat) (a0_0 a0_1 a0_2 a0_3 a0_4 a0_5 : Int) : Option (Bool) := (impl_isAny.f a0_0 a0_1 a0_2 a0_3 a0_4 a0_5).bind fun t793 => (if t793 = true then (some true) else ((impl_AddrOk.f a0_0 a0_1 a0_2 a0_3 a0_4).bind fun t794 => (if t794 = true then ((impl_bitsOf.f a0_0 a0_1 a0_2 a0_3 a0_4).bind fun t795 => ((impl_within.f a0_5 0 t795).bind fun t796 => (if t796 = true then ((impl_Cut.f k a0_0 a0_1 a0_2 a0_3 a0_4 a0_5).bind fun bt797 => (some (bt797.1 == a0_0 && (bt797.2.1 == a0_1 && (bt797.2.2.1 == a0_2 && (bt797.2.2.2.1 == a0_3 && (bt797.2.2.2.2 == a0_4))))))) else (some false)))) else (some false))))
def impl_PrefixOk.T1 : Bool × List (List Nat × List Nat) := (true, [([], []), ([0], [0]), ([1, 1], [1]), ([2], [2]), ([3, 2], [2, 3]), ([4, 2, 2], [2, 4]), ([5, 5, 2], [2, 5]), ([6], [6]), ([7, 6], [6, 7]), ([6], [6]), ([9, 6], [6, 9]), ([10, 6, 6], [6, 10]), ([8, 11, 11, 6], [6, 8, 11]), ([6, 12, 2], [2, 6, 12]), ([13, 12, 2], [2, 13]), ([14], [14]), ([15, 14], [14, 15]), ([14], [14]), ([17, 14], [14, 17]), ([16, 18, 14, 14], [14, 16, 18]), ([14], [14]), ([20, 14], [14, 20]), ([19, 21, 14], [14, 19, 21]), ([14, 22, 2], [2, 14, 22]), ([2, 23], [2, 23]), ([24, 19, 0, 1, 2, 3, 4, 5, 6, 7, 8, 9, 10, 11, 12, 13, 14, 15, 16, 17, 18, 19, 20, 21, 22, 23, 24], [24])])
def impl_PrefixOk.B1 : List Nat := [0, 1, 3, 7, 15, 31, 63, 127, 255, 127, 639, 1663, 4095, 8191, 16383, 32767, 65535, 32767, 163839, 524287, 32767, 1081343, 4194303, 8388607, 16777215, 33554431]
theorem impl_PrefixOk.tab1 : rtab .any (opsOf Try.f32 1) = impl_PrefixOk.T1 := by kernel_rfl
theorem impl_PrefixOk.bits1 : waitsOk impl_PrefixOk.T1.2 impl_PrefixOk.B1 = true := by kernel_rfl
set_option maxHeartbeats 8000000 in
set_option maxRecDepth 100000 in
theorem impl_PrefixOk.calls (k : Nat) (a0_0 a0_1 a0_2 a0_3 a0_4 a0_5 : Int) (r : Bool) (w : World) (h : impl_PrefixOk.f k a0_0 a0_1 a0_2 a0_3 a0_4 a0_5 = some r) :
  Calls Try.prog 32 #[.agg #[I L a0_0, I L a0_1, I L a0_2, I L a0_3, I L a0_4, I L a0_5]] w fun e w' => e = .returned (.bool r) ∧ Below w.heap.size w w' := by
 have hu27 := Try.underlying27
 have hu25 := Try.underlying25
 have HB := D (Below.refl w.heap.size w)
 have H:((impl_isAny.f a0_0 a0_1 a0_2 a0_3 a0_4 a0_5).bind fun Oa=>(if Oa=true then (some true) else ((impl_AddrOk.f a0_0 a0_1 a0_2 a0_3 a0_4).bind fun Ua=>(if Ua=true then ((impl_bitsOf.f a0_0 a0_1 a0_2 a0_3 a0_4).bind fun Ma=>((impl_within.f a0_5 0 Ma).bind fun Xa=>(if Xa=true then ((impl_Cut.f k a0_0 a0_1 a0_2 a0_3 a0_4 a0_5).bind fun bt797=>(some (bt797.1 == a0_0 && (bt797.2.1 == a0_1 && (bt797.2.2.1 == a0_2 && (bt797.2.2.2.1 == a0_3 && (bt797.2.2.2.2 == a0_4))))))) else (some false)))) else (some false)))))=some r:=h
 clear h
 obtain ⟨Oa, A20, H⟩ := bs_.mp H
 (try dsimp only at H)
 have A2 := D A20
 clear A20
 by_cases c3 : Oa = true
 ·subst c3
  rw [if_pos rfl] at H; obtain rfl := Option.some.inj H; go_enter Try.func32, Try.ntmps32
  try go_wp2_with (first|((with_reducible refine gate_dst (N:=1) rfl ?_);refine bx_ (N:=1) (cs:=#[I L a0_0,I L a0_1,I L a0_2,I L a0_3,I L a0_4,I L a0_5]) (t:=27) ?_;intro Ka hg w4 hbox hb;have n_:=an_ (below_step (pB_ HB.out) hb)<|an_ (hbox)<|an_ (bg_ hg (pB_ HB.out):w.heap.size≤Ka)<|D (bg_ hg (pB_ HB.out):w.heap.size≤Ka);clear HB;obtain ⟨HB,Ja,Jb,Kb⟩:=n_;clear hb hbox hg))
  have n_ := an_ (blk_drew Ja.out) <| D (below_drew1 HB.out)
  clear Ja HB;obtain ⟨Ja,HB⟩:=n_;refine start_ (n:=26) (S:=fun w'=>w'.cell? ⟨Ka,0,none⟩=some (I L a0_0)∧w'.cell? ⟨Ka,1,none⟩=some (I L a0_1)∧w'.cell? ⟨Ka,2,none⟩=some (I L a0_2)∧w'.cell? ⟨Ka,3,none⟩=some (I L a0_3)∧w'.cell? ⟨Ka,4,none⟩=some (I L a0_4)∧w'.cell? ⟨Ka,5,none⟩=some (I L a0_5)) (ds:=[]) (bz 26 0) (by kernel_rfl) rfl (by kernel_rfl) (be6_ Ja.out) (fun hHeld=>?_);refine with_tabW impl_PrefixOk.tab1 impl_PrefixOk.bits1 (fun HT_ HW_=>?_);generalize w4.drew=w5 at Ja HB hHeld ⊢;refine tb_ 0 rfl rfl hHeld Z14 ?_;refine oa_ 1 4 26 3 HT_ (fun K hK=>?_);refine goes_ Try.func46 (by kernel_rfl) rfl #[.agg #[I L a0_0,I L a0_1,I L a0_2,I L a0_3,I L a0_4,I L a0_5]] (by rfl) rfl rfl Z8 ?_;with_reducible refine (impl_isAny.calls a0_0 a0_1 a0_2 a0_3 a0_4 a0_5 true _ A2.out).mono ?_
  rintro e w6 ⟨rfl, hb⟩; refine ⟨_, rfl, ?_⟩
  have n_ := an_ (blk_below (pk_ Ja.out) hb) <| D (below_step (pB_ HB.out) hb)
  clear Ja HB;obtain ⟨Ja,HB⟩:=n_;refine hK.out _ _ (be6_ Ja.out) (fun hHeld=>?_);clear hK K;refine nx_ (N:=some 4) ?_;refine pb_ 2 ?_;refine ob_ 3 ?_;refine ob_ 4 ?_;refine ob_ 5 ?_;refine ob_ 6 ?_;refine ob_ 7 ?_;refine ob_ 8 ?_;refine ob_ 9 ?_;refine ob_ 10 ?_;refine ob_ 11 ?_;refine ob_ 12 ?_;refine ob_ 13 ?_;refine ob_ 14 ?_;refine ob_ 15 ?_;refine ob_ 16 ?_;refine ob_ 17 ?_;refine ob_ 18 ?_;refine ob_ 19 ?_;refine ob_ 20 ?_;refine ob_ 21 ?_;refine ob_ 22 ?_;refine ob_ 23 ?_;refine pb_ 24 ?_;refine pb_ 25 ?_;refine done_ (done_of HT_.out (by kernel_rfl)) ?_
  try go_wp2
  go_ret; exact ⟨er_, pB_ HB.out⟩
 ·replace c3 := Bool.eq_false_iff.mpr c3
  subst c3; rw [if_neg (show ¬ (false = true) by decide)] at H; obtain ⟨Ua, A70, H⟩ := bs_.mp H; (try dsimp only at H); have A7 := D A70; clear A70
  by_cases c8 : Ua = true
  ·subst c8
   rw [if_pos rfl] at H;obtain ⟨Ma,A90,H⟩:=bs_.mp H;(try dsimp only at H);have A9:=D A90;clear A90;obtain ⟨Xa,A100,H⟩:=bs_.mp H;(try dsimp only at H);have A10:=D A100;clear A100
   by_cases c11 : Xa = true
   ·subst c11
    rw [if_pos rfl] at H;obtain ⟨⟨Mb,Ob,Ub,Xb,Jc⟩,A120,H⟩:=bs_.mp H;(try dsimp only at H);have A12:=D A120;clear A120;obtain rfl:=Option.some.inj H;go_enter Try.func32,Try.ntmps32
    try go_wp2_with (first|((with_reducible refine gate_dst (N:=1) rfl ?_);refine bx_ (N:=1) (cs:=#[I L a0_0,I L a0_1,I L a0_2,I L a0_3,I L a0_4,I L a0_5]) (t:=27) ?_;intro Ka hg w13 hbox hb;have n_:=an_ (below_step (pB_ HB.out) hb)<|an_ (hbox)<|an_ (bg_ hg (pB_ HB.out):w.heap.size≤Ka)<|D (bg_ hg (pB_ HB.out):w.heap.size≤Ka);clear HB;obtain ⟨HB,Ja,Jb,Kb⟩:=n_;clear hb hbox hg))
    have n_ := an_ (blk_drew Ja.out) <| D (below_drew1 HB.out)
    clear Ja HB;obtain ⟨Ja,HB⟩:=n_;refine start_ (n:=26) (S:=fun w'=>w'.cell? ⟨Ka,0,none⟩=some (I L a0_0)∧w'.cell? ⟨Ka,1,none⟩=some (I L a0_1)∧w'.cell? ⟨Ka,2,none⟩=some (I L a0_2)∧w'.cell? ⟨Ka,3,none⟩=some (I L a0_3)∧w'.cell? ⟨Ka,4,none⟩=some (I L a0_4)∧w'.cell? ⟨Ka,5,none⟩=some (I L a0_5)) (ds:=[]) (bz 26 0) (by kernel_rfl) rfl (by kernel_rfl) (be6_ Ja.out) (fun hHeld=>?_);refine with_tabW impl_PrefixOk.tab1 impl_PrefixOk.bits1 (fun HT_ HW_=>?_);generalize w13.drew=w14 at Ja HB hHeld ⊢;refine tb_ 0 rfl rfl hHeld Z14 ?_;refine oa_ 1 4 26 3 HT_ (fun K hK=>?_);refine goes_ Try.func46 (by kernel_rfl) rfl #[.agg #[I L a0_0,I L a0_1,I L a0_2,I L a0_3,I L a0_4,I L a0_5]] (by rfl) rfl rfl Z8 ?_;with_reducible refine (impl_isAny.calls a0_0 a0_1 a0_2 a0_3 a0_4 a0_5 false _ A2.out).mono ?_
    rintro e w15 ⟨rfl, hb⟩; refine ⟨_, rfl, ?_⟩
    have n_ := an_ (blk_below (pk_ Ja.out) hb) <| D (below_step (pB_ HB.out) hb)
    clear Ja HB;obtain ⟨Ja,HB⟩:=n_;refine hK.out _ _ (be6_ Ja.out) (fun hHeld=>?_);clear hK K;refine nx_ (N:=some 4) ?_;refine pb_ 2 ?_;refine pb_ 3 ?_;refine tb_ 4 rfl rfl hHeld Z14 ?_;refine oa_ 5 8 26 63 HT_ (fun K hK=>?_);refine goes_ Try.func44 (by kernel_rfl) rfl #[.agg #[I L a0_0,I L a0_1,I L a0_2,I L a0_3,I L a0_4]] (by rfl) rfl rfl Z8 ?_;with_reducible refine (impl_AddrOk.calls a0_0 a0_1 a0_2 a0_3 a0_4 true _ A7.out).mono ?_
    rintro e w16 ⟨rfl, hb⟩; refine ⟨_, rfl, ?_⟩
    have n_ := an_ (blk_below (pk_ Ja.out) hb) <| D (below_step (pB_ HB.out) hb)
    clear Ja HB;obtain ⟨Ja,HB⟩:=n_;refine hK.out _ _ (be6_ Ja.out) (fun hHeld=>?_);clear hK K;refine nx_ (N:=some 8) ?_;refine pb_ 6 ?_;refine pb_ 7 ?_;refine pb_ 9 ?_;refine tb_ 8 rfl rfl hHeld Z14 ?_;refine tb_ 10 rfl rfl hHeld Z14 ?_;refine oa_ 11 14 26 4095 HT_ (fun K hK=>?_);refine goes_ Try.func47 (by kernel_rfl) rfl #[.agg #[I L a0_0,I L a0_1,I L a0_2,I L a0_3,I L a0_4]] (by rfl) rfl rfl Z8 ?_;with_reducible refine (impl_bitsOf.calls a0_0 a0_1 a0_2 a0_3 a0_4 Ma _ A9.out).mono ?_
    rintro e w17 ⟨rfl, hb⟩; refine ⟨_, rfl, ?_⟩
    have n_ := an_ (blk_below (pk_ Ja.out) hb) <| D (below_step (pB_ HB.out) hb)
    clear Ja HB;obtain ⟨Ja,HB⟩:=n_;refine hK.out _ _ (be6_ Ja.out) (fun hHeld=>?_);clear hK K;refine nx_ (N:=some 14) ?_;refine oa_ 12 15 26 8191 HT_ (fun K hK=>?_);refine goes_ Try.func31 (by kernel_rfl) rfl #[I L a0_5,I L 0,I L Ma] (by rfl) rfl rfl Z8 ?_;with_reducible refine (impl_within.calls a0_5 0 Ma true _ A10.out).mono ?_
    rintro e w' ⟨rfl,⟨nd,rfl⟩⟩;refine ⟨_,rfl,?_⟩;refine hK.out _ _ (be6_ Ja.out) (fun hHeld=>?_);clear hK K;refine nx_ (N:=some 15) ?_;refine pb_ 13 ?_;refine pb_ 14 ?_;refine pb_ 15 ?_;refine pb_ 17 ?_;refine pb_ 20 ?_;refine tb_ 16 rfl rfl hHeld Z14 ?_;refine tb_ 18 rfl rfl hHeld Z14 ?_;refine tb_ 21 rfl rfl hHeld Z14 ?_;refine oa_ 19 22 26 4194303 HT_ (fun K hK=>?_);refine goes_ Try.func48 (by kernel_rfl) rfl #[.agg #[I L a0_0,I L a0_1,I L a0_2,I L a0_3,I L a0_4],I L a0_5] (by rfl) rfl rfl Z8 ?_;with_reducible refine (impl_Cut.calls k a0_0 a0_1 a0_2 a0_3 a0_4 a0_5 Mb Ob Ub Xb Jc _ A12.out).mono ?_
    rintro e w18 ⟨rfl, hb⟩; refine ⟨_, rfl, ?_⟩
    have n_ := an_ (blk_below (pk_ Ja.out) hb) <| D (below_step (pB_ HB.out) hb)
    clear Ja HB;obtain ⟨Ja,HB⟩:=n_;refine hK.out _ _ (be6_ Ja.out) (fun hHeld=>?_);clear hK K;refine nx_ (N:=some 22) ?_;refine pb_ 22 ?_;refine pb_ 23 ?_;refine pb_ 24 ?_;refine pb_ 25 ?_;refine done_ (done_of HT_.out (by kernel_rfl)) ?_
    try go_wp2
    go_ret; exact ⟨er_, pB_ HB.out⟩
   ·replace c11 := Bool.eq_false_iff.mpr c11
    subst c11; rw [if_neg (show ¬ (false = true) by decide)] at H; obtain rfl := Option.some.inj H; go_enter Try.func32, Try.ntmps32
    try go_wp2_with (first|((with_reducible refine gate_dst (N:=1) rfl ?_);refine bx_ (N:=1) (cs:=#[I L a0_0,I L a0_1,I L a0_2,I L a0_3,I L a0_4,I L a0_5]) (t:=27) ?_;intro Ka hg w19 hbox hb;have n_:=an_ (below_step (pB_ HB.out) hb)<|an_ (hbox)<|an_ (bg_ hg (pB_ HB.out):w.heap.size≤Ka)<|D (bg_ hg (pB_ HB.out):w.heap.size≤Ka);clear HB;obtain ⟨HB,Ja,Jb,Kb⟩:=n_;clear hb hbox hg))
    have n_ := an_ (blk_drew Ja.out) <| D (below_drew1 HB.out)
    clear Ja HB;obtain ⟨Ja,HB⟩:=n_;refine start_ (n:=26) (S:=fun w'=>w'.cell? ⟨Ka,0,none⟩=some (I L a0_0)∧w'.cell? ⟨Ka,1,none⟩=some (I L a0_1)∧w'.cell? ⟨Ka,2,none⟩=some (I L a0_2)∧w'.cell? ⟨Ka,3,none⟩=some (I L a0_3)∧w'.cell? ⟨Ka,4,none⟩=some (I L a0_4)∧w'.cell? ⟨Ka,5,none⟩=some (I L a0_5)) (ds:=[]) (bz 26 0) (by kernel_rfl) rfl (by kernel_rfl) (be6_ Ja.out) (fun hHeld=>?_);refine with_tabW impl_PrefixOk.tab1 impl_PrefixOk.bits1 (fun HT_ HW_=>?_);generalize w19.drew=w20 at Ja HB hHeld ⊢;refine tb_ 0 rfl rfl hHeld Z14 ?_;refine oa_ 1 4 26 3 HT_ (fun K hK=>?_);refine goes_ Try.func46 (by kernel_rfl) rfl #[.agg #[I L a0_0,I L a0_1,I L a0_2,I L a0_3,I L a0_4,I L a0_5]] (by rfl) rfl rfl Z8 ?_;with_reducible refine (impl_isAny.calls a0_0 a0_1 a0_2 a0_3 a0_4 a0_5 false _ A2.out).mono ?_
    rintro e w21 ⟨rfl, hb⟩; refine ⟨_, rfl, ?_⟩
    have n_ := an_ (blk_below (pk_ Ja.out) hb) <| D (below_step (pB_ HB.out) hb)
    clear Ja HB;obtain ⟨Ja,HB⟩:=n_;refine hK.out _ _ (be6_ Ja.out) (fun hHeld=>?_);clear hK K;refine nx_ (N:=some 4) ?_;refine pb_ 2 ?_;refine pb_ 3 ?_;refine tb_ 4 rfl rfl hHeld Z14 ?_;refine oa_ 5 8 26 63 HT_ (fun K hK=>?_);refine goes_ Try.func44 (by kernel_rfl) rfl #[.agg #[I L a0_0,I L a0_1,I L a0_2,I L a0_3,I L a0_4]] (by rfl) rfl rfl Z8 ?_;with_reducible refine (impl_AddrOk.calls a0_0 a0_1 a0_2 a0_3 a0_4 true _ A7.out).mono ?_
    rintro e w22 ⟨rfl, hb⟩; refine ⟨_, rfl, ?_⟩
    have n_ := an_ (blk_below (pk_ Ja.out) hb) <| D (below_step (pB_ HB.out) hb)
    clear Ja HB;obtain ⟨Ja,HB⟩:=n_;refine hK.out _ _ (be6_ Ja.out) (fun hHeld=>?_);clear hK K;refine nx_ (N:=some 8) ?_;refine pb_ 6 ?_;refine pb_ 7 ?_;refine pb_ 9 ?_;refine tb_ 8 rfl rfl hHeld Z14 ?_;refine tb_ 10 rfl rfl hHeld Z14 ?_;refine oa_ 11 14 26 4095 HT_ (fun K hK=>?_);refine goes_ Try.func47 (by kernel_rfl) rfl #[.agg #[I L a0_0,I L a0_1,I L a0_2,I L a0_3,I L a0_4]] (by rfl) rfl rfl Z8 ?_;with_reducible refine (impl_bitsOf.calls a0_0 a0_1 a0_2 a0_3 a0_4 Ma _ A9.out).mono ?_
    rintro e w23 ⟨rfl, hb⟩; refine ⟨_, rfl, ?_⟩
    have n_ := an_ (blk_below (pk_ Ja.out) hb) <| D (below_step (pB_ HB.out) hb)
    clear Ja HB;obtain ⟨Ja,HB⟩:=n_;refine hK.out _ _ (be6_ Ja.out) (fun hHeld=>?_);clear hK K;refine nx_ (N:=some 14) ?_;refine oa_ 12 15 26 8191 HT_ (fun K hK=>?_);refine goes_ Try.func31 (by kernel_rfl) rfl #[I L a0_5,I L 0,I L Ma] (by rfl) rfl rfl Z8 ?_;with_reducible refine (impl_within.calls a0_5 0 Ma false _ A10.out).mono ?_
    rintro e w' ⟨rfl,⟨nd,rfl⟩⟩;refine ⟨_,rfl,?_⟩;refine hK.out _ _ (be6_ Ja.out) (fun hHeld=>?_);clear hK K;refine nx_ (N:=some 15) ?_;refine pb_ 13 ?_;refine pb_ 14 ?_;refine ob_ 15 ?_;refine ob_ 16 ?_;refine ob_ 17 ?_;refine ob_ 18 ?_;refine ob_ 19 ?_;refine ob_ 20 ?_;refine ob_ 21 ?_;refine ob_ 22 ?_;refine pb_ 23 ?_;refine pb_ 24 ?_;refine pb_ 25 ?_;refine done_ (done_of HT_.out (by kernel_rfl)) ?_
    try go_wp2
    go_ret; exact ⟨er_, pB_ HB.out⟩
  ·replace c8 := Bool.eq_false_iff.mpr c8
   subst c8; rw [if_neg (show ¬ (false = true) by decide)] at H; obtain rfl := Option.some.inj H; go_enter Try.func32, Try.ntmps32
   try go_wp2_with (first|((with_reducible refine gate_dst (N:=1) rfl ?_);refine bx_ (N:=1) (cs:=#[I L a0_0,I L a0_1,I L a0_2,I L a0_3,I L a0_4,I L a0_5]) (t:=27) ?_;intro Ka hg w24 hbox hb;have n_:=an_ (below_step (pB_ HB.out) hb)<|an_ (hbox)<|an_ (bg_ hg (pB_ HB.out):w.heap.size≤Ka)<|D (bg_ hg (pB_ HB.out):w.heap.size≤Ka);clear HB;obtain ⟨HB,Ja,Jb,Kb⟩:=n_;clear hb hbox hg))
   have n_ := an_ (blk_drew Ja.out) <| D (below_drew1 HB.out)
   clear Ja HB;obtain ⟨Ja,HB⟩:=n_;refine start_ (n:=26) (S:=fun w'=>w'.cell? ⟨Ka,0,none⟩=some (I L a0_0)∧w'.cell? ⟨Ka,1,none⟩=some (I L a0_1)∧w'.cell? ⟨Ka,2,none⟩=some (I L a0_2)∧w'.cell? ⟨Ka,3,none⟩=some (I L a0_3)∧w'.cell? ⟨Ka,4,none⟩=some (I L a0_4)∧w'.cell? ⟨Ka,5,none⟩=some (I L a0_5)) (ds:=[]) (bz 26 0) (by kernel_rfl) rfl (by kernel_rfl) (be6_ Ja.out) (fun hHeld=>?_);refine with_tabW impl_PrefixOk.tab1 impl_PrefixOk.bits1 (fun HT_ HW_=>?_);generalize w24.drew=w25 at Ja HB hHeld ⊢;refine tb_ 0 rfl rfl hHeld Z14 ?_;refine oa_ 1 4 26 3 HT_ (fun K hK=>?_);refine goes_ Try.func46 (by kernel_rfl) rfl #[.agg #[I L a0_0,I L a0_1,I L a0_2,I L a0_3,I L a0_4,I L a0_5]] (by rfl) rfl rfl Z8 ?_;with_reducible refine (impl_isAny.calls a0_0 a0_1 a0_2 a0_3 a0_4 a0_5 false _ A2.out).mono ?_
   rintro e w26 ⟨rfl, hb⟩; refine ⟨_, rfl, ?_⟩
   have n_ := an_ (blk_below (pk_ Ja.out) hb) <| D (below_step (pB_ HB.out) hb)
   clear Ja HB;obtain ⟨Ja,HB⟩:=n_;refine hK.out _ _ (be6_ Ja.out) (fun hHeld=>?_);clear hK K;refine nx_ (N:=some 4) ?_;refine pb_ 2 ?_;refine pb_ 3 ?_;refine tb_ 4 rfl rfl hHeld Z14 ?_;refine oa_ 5 8 26 63 HT_ (fun K hK=>?_);refine goes_ Try.func44 (by kernel_rfl) rfl #[.agg #[I L a0_0,I L a0_1,I L a0_2,I L a0_3,I L a0_4]] (by rfl) rfl rfl Z8 ?_;with_reducible refine (impl_AddrOk.calls a0_0 a0_1 a0_2 a0_3 a0_4 false _ A7.out).mono ?_
   rintro e w27 ⟨rfl, hb⟩; refine ⟨_, rfl, ?_⟩
   have n_ := an_ (blk_below (pk_ Ja.out) hb) <| D (below_step (pB_ HB.out) hb)
   clear Ja HB;obtain ⟨Ja,HB⟩:=n_;refine hK.out _ _ (be6_ Ja.out) (fun hHeld=>?_);clear hK K;refine nx_ (N:=some 8) ?_;refine pb_ 6 ?_;refine ob_ 7 ?_;refine ob_ 8 ?_;refine ob_ 9 ?_;refine ob_ 10 ?_;refine ob_ 11 ?_;refine ob_ 12 ?_;refine pb_ 13 ?_;refine pb_ 14 ?_;refine ob_ 15 ?_;refine ob_ 16 ?_;refine ob_ 17 ?_;refine ob_ 18 ?_;refine ob_ 19 ?_;refine ob_ 20 ?_;refine ob_ 21 ?_;refine ob_ 22 ?_;refine pb_ 23 ?_;refine pb_ 24 ?_;refine pb_ 25 ?_;refine done_ (done_of HT_.out (by kernel_rfl)) ?_
   try go_wp2
   go_ret; exact ⟨er_, pB_ HB.out⟩

/-! ### impl_isRange: function 33 -/
def impl_isRange.f (a0 a1 : Int) : Option (Bool) := if a0 ≥ 0 then (if a0 ≤ a1 then (some (decide (a1 ≤ 65535))) else (some false)) else (some false)
set_option maxHeartbeats 8000000 in
set_option maxRecDepth 100000 in
theorem impl_isRange.calls (a0 a1 : Int) (r : Bool) (w : World) (h : impl_isRange.f a0 a1 = some r) :
  Calls Try.prog 33 #[I L a0, I L a1] w fun e w' => e = .returned (.bool r) ∧ Drawn0 w w' := by
 have H : (if a0 ≥ 0 then (if a0 ≤ a1 then (some (decide (a1 ≤ 65535))) else (some false)) else (some false)) = some r := h
 clear h
 by_cases c3 : a0 ≥ 0
 ·rw [if_pos c3] at H
  have c3b0 : decide (0 ≤ a0) = true := decide_eq_true c3; clear c3
  by_cases c4 : a0 ≤ a1
  ·rw [if_pos c4] at H
   have c4b0 : decide (a0 ≤ a1) = true := decide_eq_true c4; clear c4; obtain rfl := Option.some.inj H; go_enter Try.func33, Try.ntmps33
   go_wp2
   go_ret; exact ⟨by first | rfl | (simp; done) | (simp [*]; done), by repeat (first | exact Drawn0.refl _ | apply Drawn0.step)⟩
  ·rw [if_neg c4] at H
   have c4b0 : decide (a0 ≤ a1) = false := decide_eq_false c4; clear c4; obtain rfl := Option.some.inj H; go_enter Try.func33, Try.ntmps33
   go_wp2
   go_ret; exact ⟨by first | rfl | (simp; done) | (simp [*]; done), by repeat (first | exact Drawn0.refl _ | apply Drawn0.step)⟩
 ·rw [if_neg c3] at H
  have c3b0 : decide (0 ≤ a0) = false := decide_eq_false c3; clear c3; obtain rfl := Option.some.inj H; go_enter Try.func33, Try.ntmps33
  go_wp2
  go_ret; exact ⟨by first | rfl | (simp; done) | (simp [*]; done), by repeat (first | exact Drawn0.refl _ | apply Drawn0.step)⟩

end Go.Proofs.Ytjhgkonacdimfaa.PFnTurnedKey
