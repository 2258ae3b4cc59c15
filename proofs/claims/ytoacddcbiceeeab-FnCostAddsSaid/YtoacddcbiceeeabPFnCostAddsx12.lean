-- by a program of this session's, over the kit's words
import Derived.Test.YtoacddcbiceeeabPZFnCostAdds
import Derived.Test.YtoacddcbiceeeabPFnCostAddsx0
import Derived.Test.YtoacddcbiceeeabPFnCostAddsx2
import Derived.Test.YtoacddcbiceeeabPFnCostAddsx5
import Derived.Test.YtoacddcbiceeeabPFnCostAddsx7
import Derived.Test.YtoacddcbiceeeabPFnCostAddsx11
namespace Go.Proofs.Ytoacddcbiceeeab.PFnCostAdds
open Go.RowKit Go.Proofs.YtoacddcbiceeeabW.PrintWords Go.Proofs.YtoacddcbiceeeabW.PrintLast Go.Proofs.YtoacddcbiceeeabW.PrintMore Go.Proofs.YtoacddcbiceeeabV Go.Proofs.Ytoacddcbiceeeab.ZFnCostAdds
open Go.Value renaming int → I, slice → Y
open Go.IntKind renaming i64 → L
open Aside0 renaming mk → D
open Option renaming bind_eq_some_iff → bs_
attribute [local go_sem] max2_int min2_int max_two min_two max_three min_three max_four min_four   -- for this text's walks alone
set_option linter.unusedVariables false
set_option linter.unusedSimpArgs false

attribute [local go_sem high] eqA32
/-! ### spec_PrefixOk: function 45 -/
def spec_PrefixOk.f (k : Nat) (a0_0 a0_1 a0_2 a0_3 a0_4 a0_5 : Int) : Option (Bool) := (spec_l03Any.f a0_0 a0_1 a0_2 a0_3 a0_4 a0_5).bind fun t507 => (if t507 = true then (some true) else ((spec_AddrOk.f a0_0 a0_1 a0_2 a0_3 a0_4).bind fun t508 => (if t508 = true then (if a0_5 ≥ 0 then ((spec_l03Bits.f a0_0 a0_1 a0_2 a0_3 a0_4).bind fun t509 => (if a0_5 ≤ t509 then ((spec_Cut.f k a0_0 a0_1 a0_2 a0_3 a0_4 a0_5).bind fun bt510 => (some (bt510.1 == a0_0 && (bt510.2.1 == a0_1 && (bt510.2.2.1 == a0_2 && (bt510.2.2.2.1 == a0_3 && (bt510.2.2.2.2 == a0_4))))))) else (some false))) else (some false)) else (some false))))
def spec_PrefixOk.T1 : Bool × List (List Nat × List Nat) := (true, [([], []), ([0], [0]), ([1, 1], [1]), ([2], [2]), ([3, 2], [2, 3]), ([4, 2, 2], [2, 4]), ([5, 5, 2], [2, 5]), ([6], [6]), ([7, 6], [6, 7]), ([8, 6], [6, 8]), ([6, 9, 2], [2, 6, 9]), ([10, 6, 2], [2, 10]), ([11], [11]), ([12, 11], [11, 12]), ([11], [11]), ([14, 11], [11, 14]), ([15, 11, 11], [11, 15]), ([13, 16, 11], [11, 13, 16]), ([11, 17, 2], [2, 11, 17]), ([18, 16, 2], [2, 18]), ([19], [19]), ([20, 19], [19, 20]), ([19], [19]), ([22, 19], [19, 22]), ([21, 23, 19, 19], [19, 21, 23]), ([19], [19]), ([25, 19], [19, 25]), ([24, 26, 19], [19, 24, 26]), ([19, 27, 2], [2, 19, 27]), ([2, 28], [2, 28]), ([29, 24, 0, 1, 2, 3, 4, 5, 6, 7, 8, 9, 10, 11, 12, 13, 14, 15, 16, 17, 18, 19, 20, 21, 22, 23, 24, 25, 26, 27, 28, 29], [29])])
def spec_PrefixOk.B1 : List Nat := [0, 1, 3, 7, 15, 31, 63, 127, 255, 511, 1023, 2047, 4095, 8191, 4095, 20479, 53247, 131071, 262143, 524287, 1048575, 2097151, 1048575, 5242879, 16777215, 1048575, 34603007, 134217727, 268435455, 536870911, 1073741823]
theorem spec_PrefixOk.tab1 : rtab .any (opsOf Try.f45 1) = spec_PrefixOk.T1 := by kernel_rfl
theorem spec_PrefixOk.bits1 : waitsOk spec_PrefixOk.T1.2 spec_PrefixOk.B1 = true := by kernel_rfl
set_option maxHeartbeats 8000000 in
set_option maxRecDepth 100000 in
theorem spec_PrefixOk.calls (k : Nat) (a0_0 a0_1 a0_2 a0_3 a0_4 a0_5 : Int) (r : Bool) (w : World) (h : spec_PrefixOk.f k a0_0 a0_1 a0_2 a0_3 a0_4 a0_5 = some r) :
  Calls Try.prog 45 #[.agg #[I L a0_0, I L a0_1, I L a0_2, I L a0_3, I L a0_4, I L a0_5]] w fun e w' => e = .returned (.bool r) ∧ Below w.heap.size w w' := by
 have hu34 := Try.underlying34
 have hu32 := Try.underlying32
 have HB := D (Below.refl w.heap.size w)
 have H:((spec_l03Any.f a0_0 a0_1 a0_2 a0_3 a0_4 a0_5).bind fun Xa=>(if Xa=true then (some true) else ((spec_AddrOk.f a0_0 a0_1 a0_2 a0_3 a0_4).bind fun Jb=>(if Jb=true then (if a0_5 ≥ 0 then ((spec_l03Bits.f a0_0 a0_1 a0_2 a0_3 a0_4).bind fun Ma=>(if a0_5≤Ma then ((spec_Cut.f k a0_0 a0_1 a0_2 a0_3 a0_4 a0_5).bind fun bt510=>(some (bt510.1 == a0_0 && (bt510.2.1 == a0_1 && (bt510.2.2.1 == a0_2 && (bt510.2.2.2.1 == a0_3 && (bt510.2.2.2.2 == a0_4))))))) else (some false))) else (some false)) else (some false)))))=some r:=h
 clear h
 obtain ⟨Xa, A20, H⟩ := bs_.mp H
 (try dsimp only at H)
 have A2 := D A20
 clear A20
 by_cases c3 : Xa = true
 ·subst c3
  rw [if_pos rfl] at H; obtain rfl := Option.some.inj H; go_enter Try.func45, Try.ntmps45
  try go_wp2_with (first|((with_reducible refine gate_dst (N:=1) rfl ?_);refine bx_ (N:=1) (cs:=#[I L a0_0,I L a0_1,I L a0_2,I L a0_3,I L a0_4,I L a0_5]) (t:=34) ?_;intro Ka hg w4 hbox hb;have n_:=an_ (below_step (pB_ HB.out) hb)<|an_ (hbox)<|an_ (bg_ hg (pB_ HB.out):w.heap.size≤Ka)<|D (bg_ hg (pB_ HB.out):w.heap.size≤Ka);clear HB;obtain ⟨HB,Ja,Oa,Ua⟩:=n_;clear hb hbox hg))
  have n_ := an_ (blk_drew Ja.out) <| D (below_drew1 HB.out)
  clear Ja HB;obtain ⟨Ja,HB⟩:=n_;refine start_ (n:=31) (S:=fun w'=>w'.cell? ⟨Ka,0,none⟩=some (I L a0_0)∧w'.cell? ⟨Ka,1,none⟩=some (I L a0_1)∧w'.cell? ⟨Ka,2,none⟩=some (I L a0_2)∧w'.cell? ⟨Ka,3,none⟩=some (I L a0_3)∧w'.cell? ⟨Ka,4,none⟩=some (I L a0_4)∧w'.cell? ⟨Ka,5,none⟩=some (I L a0_5)) (ds:=[]) (bz 31 0) (by kernel_rfl) rfl (by kernel_rfl) (be6_ Ja.out) (fun hHeld=>?_);refine with_tabW spec_PrefixOk.tab1 spec_PrefixOk.bits1 (fun HT_ HW_=>?_);generalize w4.drew=w5 at Ja HB hHeld ⊢;refine tb_ 0 rfl rfl hHeld Z18 ?_;refine oa_ 1 4 31 3 HT_ (fun K hK=>?_);refine goes_ Try.func44 (by kernel_rfl) rfl #[.agg #[I L a0_0,I L a0_1,I L a0_2,I L a0_3,I L a0_4,I L a0_5]] (by rfl) rfl rfl Z15 ?_;with_reducible refine (spec_l03Any.calls a0_0 a0_1 a0_2 a0_3 a0_4 a0_5 true _ A2.out).mono ?_
  rintro e w6 ⟨rfl, hb⟩; refine ⟨_, rfl, ?_⟩
  have n_ := an_ (blk_below (pk_ Ja.out) hb) <| D (below_step (pB_ HB.out) hb)
  clear Ja HB;obtain ⟨Ja,HB⟩:=n_;refine hK.out _ _ (be6_ Ja.out) (fun hHeld=>?_);clear hK K;refine nx_ (N:=some 4) ?_;refine pb_ 2 ?_;refine ob_ 3 ?_;refine ob_ 4 ?_;refine ob_ 5 ?_;refine ob_ 6 ?_;refine ob_ 7 ?_;refine ob_ 8 ?_;refine ob_ 9 ?_;refine ob_ 10 ?_;refine ob_ 11 ?_;refine ob_ 12 ?_;refine ob_ 13 ?_;refine ob_ 14 ?_;refine ob_ 15 ?_;refine ob_ 16 ?_;refine ob_ 17 ?_;refine ob_ 18 ?_;refine ob_ 19 ?_;refine ob_ 20 ?_;refine ob_ 21 ?_;refine ob_ 22 ?_;refine ob_ 23 ?_;refine ob_ 24 ?_;refine ob_ 25 ?_;refine ob_ 26 ?_;refine ob_ 27 ?_;refine ob_ 28 ?_;refine pb_ 29 ?_;refine pb_ 30 ?_;refine done_ (done_of HT_.out (by kernel_rfl)) ?_
  try go_wp2
  go_ret; exact ⟨er_, pB_ HB.out⟩
 ·replace c3 := Bool.eq_false_iff.mpr c3
  subst c3; rw [if_neg (show ¬ (false = true) by decide)] at H; obtain ⟨Jb, A70, H⟩ := bs_.mp H; (try dsimp only at H); have A7 := D A70; clear A70
  by_cases c8 : Jb = true
  ·subst c8
   rw [if_pos rfl] at H
   by_cases c9 : a0_5 ≥ 0
   ·rw [if_pos c9] at H
    have c9b0 : decide (0 ≤ a0_5) = true := decide_eq_true c9; clear c9; obtain ⟨Ma, A100, H⟩ := bs_.mp H; (try dsimp only at H); have A10 := D A100; clear A100
    by_cases c11 : a0_5 ≤ Ma
    ·rw [if_pos c11] at H
     have c11b0:decide (a0_5≤Ma)=true:=decide_eq_true c11;clear c11;obtain ⟨⟨Kb,Mb,Ob,Ub,Xb⟩,A120,H⟩:=bs_.mp H;(try dsimp only at H);have A12:=D A120;clear A120;obtain rfl:=Option.some.inj H;go_enter Try.func45,Try.ntmps45
     try go_wp2_with (first|((with_reducible refine gate_dst (N:=1) rfl ?_);refine bx_ (N:=1) (cs:=#[I L a0_0,I L a0_1,I L a0_2,I L a0_3,I L a0_4,I L a0_5]) (t:=34) ?_;intro Ka hg w13 hbox hb;have n_:=an_ (below_step (pB_ HB.out) hb)<|an_ (hbox)<|an_ (bg_ hg (pB_ HB.out):w.heap.size≤Ka)<|D (bg_ hg (pB_ HB.out):w.heap.size≤Ka);clear HB;obtain ⟨HB,Ja,Oa,Ua⟩:=n_;clear hb hbox hg))
     have n_ := an_ (blk_drew Ja.out) <| D (below_drew1 HB.out)
     clear Ja HB;obtain ⟨Ja,HB⟩:=n_;refine start_ (n:=31) (S:=fun w'=>w'.cell? ⟨Ka,0,none⟩=some (I L a0_0)∧w'.cell? ⟨Ka,1,none⟩=some (I L a0_1)∧w'.cell? ⟨Ka,2,none⟩=some (I L a0_2)∧w'.cell? ⟨Ka,3,none⟩=some (I L a0_3)∧w'.cell? ⟨Ka,4,none⟩=some (I L a0_4)∧w'.cell? ⟨Ka,5,none⟩=some (I L a0_5)) (ds:=[]) (bz 31 0) (by kernel_rfl) rfl (by kernel_rfl) (be6_ Ja.out) (fun hHeld=>?_);refine with_tabW spec_PrefixOk.tab1 spec_PrefixOk.bits1 (fun HT_ HW_=>?_);generalize w13.drew=w14 at Ja HB hHeld ⊢;refine tb_ 0 rfl rfl hHeld Z18 ?_;refine oa_ 1 4 31 3 HT_ (fun K hK=>?_);refine goes_ Try.func44 (by kernel_rfl) rfl #[.agg #[I L a0_0,I L a0_1,I L a0_2,I L a0_3,I L a0_4,I L a0_5]] (by rfl) rfl rfl Z15 ?_;with_reducible refine (spec_l03Any.calls a0_0 a0_1 a0_2 a0_3 a0_4 a0_5 false _ A2.out).mono ?_
     rintro e w15 ⟨rfl, hb⟩; refine ⟨_, rfl, ?_⟩
     have n_ := an_ (blk_below (pk_ Ja.out) hb) <| D (below_step (pB_ HB.out) hb)
     clear Ja HB;obtain ⟨Ja,HB⟩:=n_;refine hK.out _ _ (be6_ Ja.out) (fun hHeld=>?_);clear hK K;refine nx_ (N:=some 4) ?_;refine pb_ 2 ?_;refine pb_ 3 ?_;refine tb_ 4 rfl rfl hHeld Z18 ?_;refine oa_ 5 8 31 63 HT_ (fun K hK=>?_);refine goes_ Try.func56 (by kernel_rfl) rfl #[.agg #[I L a0_0,I L a0_1,I L a0_2,I L a0_3,I L a0_4]] (by rfl) rfl rfl Z15 ?_;with_reducible refine (spec_AddrOk.calls a0_0 a0_1 a0_2 a0_3 a0_4 true _ A7.out).mono ?_
     rintro e w16 ⟨rfl, hb⟩; refine ⟨_, rfl, ?_⟩
     have n_ := an_ (blk_below (pk_ Ja.out) hb) <| D (below_step (pB_ HB.out) hb)
     clear Ja HB;obtain ⟨Ja,HB⟩:=n_;refine hK.out _ _ (be6_ Ja.out) (fun hHeld=>?_);clear hK K;refine nx_ (N:=some 8) ?_;refine pb_ 6 ?_;refine pb_ 7 ?_;refine tb_ 8 rfl rfl hHeld Z18 ?_;refine pb_ 9 ?_;refine pb_ 10 ?_;refine pb_ 11 ?_;refine pb_ 12 ?_;refine pb_ 14 ?_;refine tb_ 13 rfl rfl hHeld Z18 ?_;refine tb_ 15 rfl rfl hHeld Z18 ?_;refine oa_ 16 19 31 131071 HT_ (fun K hK=>?_);refine goes_ Try.func55 (by kernel_rfl) rfl #[.agg #[I L a0_0,I L a0_1,I L a0_2,I L a0_3,I L a0_4]] (by rfl) rfl rfl Z15 ?_;with_reducible refine (spec_l03Bits.calls a0_0 a0_1 a0_2 a0_3 a0_4 Ma _ A10.out).mono ?_
     rintro e w17 ⟨rfl, hb⟩; refine ⟨_, rfl, ?_⟩
     have n_ := an_ (blk_below (pk_ Ja.out) hb) <| D (below_step (pB_ HB.out) hb)
     clear Ja HB;obtain ⟨Ja,HB⟩:=n_;refine hK.out _ _ (be6_ Ja.out) (fun hHeld=>?_);clear hK K;refine nx_ (N:=some 19) ?_;refine pb_ 17 ?_;refine pb_ 18 ?_;refine pb_ 19 ?_;refine pb_ 20 ?_;refine pb_ 22 ?_;refine pb_ 25 ?_;refine tb_ 21 rfl rfl hHeld Z18 ?_;refine tb_ 23 rfl rfl hHeld Z18 ?_;refine tb_ 26 rfl rfl hHeld Z18 ?_;refine oa_ 24 27 31 134217727 HT_ (fun K hK=>?_);refine goes_ Try.func42 (by kernel_rfl) rfl #[.agg #[I L a0_0,I L a0_1,I L a0_2,I L a0_3,I L a0_4],I L a0_5] (by rfl) rfl rfl Z15 ?_;with_reducible refine (spec_Cut.calls k a0_0 a0_1 a0_2 a0_3 a0_4 a0_5 Kb Mb Ob Ub Xb _ A12.out).mono ?_
     rintro e w18 ⟨rfl, hb⟩; refine ⟨_, rfl, ?_⟩
     have n_ := an_ (blk_below (pk_ Ja.out) hb) <| D (below_step (pB_ HB.out) hb)
     clear Ja HB;obtain ⟨Ja,HB⟩:=n_;refine hK.out _ _ (be6_ Ja.out) (fun hHeld=>?_);clear hK K;refine nx_ (N:=some 27) ?_;refine pb_ 27 ?_;refine pb_ 28 ?_;refine pb_ 29 ?_;refine pb_ 30 ?_;refine done_ (done_of HT_.out (by kernel_rfl)) ?_
     try go_wp2
     go_ret; exact ⟨er_, pB_ HB.out⟩
    ·rw [if_neg c11] at H
     have c11b0 : decide (a0_5 ≤ Ma) = false := decide_eq_false c11; clear c11; obtain rfl := Option.some.inj H; go_enter Try.func45, Try.ntmps45
     try go_wp2_with (first|((with_reducible refine gate_dst (N:=1) rfl ?_);refine bx_ (N:=1) (cs:=#[I L a0_0,I L a0_1,I L a0_2,I L a0_3,I L a0_4,I L a0_5]) (t:=34) ?_;intro Ka hg w19 hbox hb;have n_:=an_ (below_step (pB_ HB.out) hb)<|an_ (hbox)<|an_ (bg_ hg (pB_ HB.out):w.heap.size≤Ka)<|D (bg_ hg (pB_ HB.out):w.heap.size≤Ka);clear HB;obtain ⟨HB,Ja,Oa,Ua⟩:=n_;clear hb hbox hg))
     have n_ := an_ (blk_drew Ja.out) <| D (below_drew1 HB.out)
     clear Ja HB;obtain ⟨Ja,HB⟩:=n_;refine start_ (n:=31) (S:=fun w'=>w'.cell? ⟨Ka,0,none⟩=some (I L a0_0)∧w'.cell? ⟨Ka,1,none⟩=some (I L a0_1)∧w'.cell? ⟨Ka,2,none⟩=some (I L a0_2)∧w'.cell? ⟨Ka,3,none⟩=some (I L a0_3)∧w'.cell? ⟨Ka,4,none⟩=some (I L a0_4)∧w'.cell? ⟨Ka,5,none⟩=some (I L a0_5)) (ds:=[]) (bz 31 0) (by kernel_rfl) rfl (by kernel_rfl) (be6_ Ja.out) (fun hHeld=>?_);refine with_tabW spec_PrefixOk.tab1 spec_PrefixOk.bits1 (fun HT_ HW_=>?_);generalize w19.drew=w20 at Ja HB hHeld ⊢;refine tb_ 0 rfl rfl hHeld Z18 ?_;refine oa_ 1 4 31 3 HT_ (fun K hK=>?_);refine goes_ Try.func44 (by kernel_rfl) rfl #[.agg #[I L a0_0,I L a0_1,I L a0_2,I L a0_3,I L a0_4,I L a0_5]] (by rfl) rfl rfl Z15 ?_;with_reducible refine (spec_l03Any.calls a0_0 a0_1 a0_2 a0_3 a0_4 a0_5 false _ A2.out).mono ?_
     rintro e w21 ⟨rfl, hb⟩; refine ⟨_, rfl, ?_⟩
     have n_ := an_ (blk_below (pk_ Ja.out) hb) <| D (below_step (pB_ HB.out) hb)
     clear Ja HB;obtain ⟨Ja,HB⟩:=n_;refine hK.out _ _ (be6_ Ja.out) (fun hHeld=>?_);clear hK K;refine nx_ (N:=some 4) ?_;refine pb_ 2 ?_;refine pb_ 3 ?_;refine tb_ 4 rfl rfl hHeld Z18 ?_;refine oa_ 5 8 31 63 HT_ (fun K hK=>?_);refine goes_ Try.func56 (by kernel_rfl) rfl #[.agg #[I L a0_0,I L a0_1,I L a0_2,I L a0_3,I L a0_4]] (by rfl) rfl rfl Z15 ?_;with_reducible refine (spec_AddrOk.calls a0_0 a0_1 a0_2 a0_3 a0_4 true _ A7.out).mono ?_
     rintro e w22 ⟨rfl, hb⟩; refine ⟨_, rfl, ?_⟩
     have n_ := an_ (blk_below (pk_ Ja.out) hb) <| D (below_step (pB_ HB.out) hb)
     clear Ja HB;obtain ⟨Ja,HB⟩:=n_;refine hK.out _ _ (be6_ Ja.out) (fun hHeld=>?_);clear hK K;refine nx_ (N:=some 8) ?_;refine pb_ 6 ?_;refine pb_ 7 ?_;refine tb_ 8 rfl rfl hHeld Z18 ?_;refine pb_ 9 ?_;refine pb_ 10 ?_;refine pb_ 11 ?_;refine pb_ 12 ?_;refine pb_ 14 ?_;refine tb_ 13 rfl rfl hHeld Z18 ?_;refine tb_ 15 rfl rfl hHeld Z18 ?_;refine oa_ 16 19 31 131071 HT_ (fun K hK=>?_);refine goes_ Try.func55 (by kernel_rfl) rfl #[.agg #[I L a0_0,I L a0_1,I L a0_2,I L a0_3,I L a0_4]] (by rfl) rfl rfl Z15 ?_;with_reducible refine (spec_l03Bits.calls a0_0 a0_1 a0_2 a0_3 a0_4 Ma _ A10.out).mono ?_
     rintro e w23 ⟨rfl, hb⟩; refine ⟨_, rfl, ?_⟩
     have n_ := an_ (blk_below (pk_ Ja.out) hb) <| D (below_step (pB_ HB.out) hb)
     clear Ja HB;obtain ⟨Ja,HB⟩:=n_;refine hK.out _ _ (be6_ Ja.out) (fun hHeld=>?_);clear hK K;refine nx_ (N:=some 19) ?_;refine pb_ 17 ?_;refine pb_ 18 ?_;refine pb_ 19 ?_;refine ob_ 20 ?_;refine ob_ 21 ?_;refine ob_ 22 ?_;refine ob_ 23 ?_;refine ob_ 24 ?_;refine ob_ 25 ?_;refine ob_ 26 ?_;refine ob_ 27 ?_;refine pb_ 28 ?_;refine pb_ 29 ?_;refine pb_ 30 ?_;refine done_ (done_of HT_.out (by kernel_rfl)) ?_
     try go_wp2
     go_ret; exact ⟨er_, pB_ HB.out⟩
   ·rw [if_neg c9] at H
    have c9b0 : decide (0 ≤ a0_5) = false := decide_eq_false c9; clear c9; obtain rfl := Option.some.inj H; go_enter Try.func45, Try.ntmps45
    try go_wp2_with (first|((with_reducible refine gate_dst (N:=1) rfl ?_);refine bx_ (N:=1) (cs:=#[I L a0_0,I L a0_1,I L a0_2,I L a0_3,I L a0_4,I L a0_5]) (t:=34) ?_;intro Ka hg w24 hbox hb;have n_:=an_ (below_step (pB_ HB.out) hb)<|an_ (hbox)<|an_ (bg_ hg (pB_ HB.out):w.heap.size≤Ka)<|D (bg_ hg (pB_ HB.out):w.heap.size≤Ka);clear HB;obtain ⟨HB,Ja,Oa,Ua⟩:=n_;clear hb hbox hg))
    have n_ := an_ (blk_drew Ja.out) <| D (below_drew1 HB.out)
    clear Ja HB;obtain ⟨Ja,HB⟩:=n_;refine start_ (n:=31) (S:=fun w'=>w'.cell? ⟨Ka,0,none⟩=some (I L a0_0)∧w'.cell? ⟨Ka,1,none⟩=some (I L a0_1)∧w'.cell? ⟨Ka,2,none⟩=some (I L a0_2)∧w'.cell? ⟨Ka,3,none⟩=some (I L a0_3)∧w'.cell? ⟨Ka,4,none⟩=some (I L a0_4)∧w'.cell? ⟨Ka,5,none⟩=some (I L a0_5)) (ds:=[]) (bz 31 0) (by kernel_rfl) rfl (by kernel_rfl) (be6_ Ja.out) (fun hHeld=>?_);refine with_tabW spec_PrefixOk.tab1 spec_PrefixOk.bits1 (fun HT_ HW_=>?_);generalize w24.drew=w25 at Ja HB hHeld ⊢;refine tb_ 0 rfl rfl hHeld Z18 ?_;refine oa_ 1 4 31 3 HT_ (fun K hK=>?_);refine goes_ Try.func44 (by kernel_rfl) rfl #[.agg #[I L a0_0,I L a0_1,I L a0_2,I L a0_3,I L a0_4,I L a0_5]] (by rfl) rfl rfl Z15 ?_;with_reducible refine (spec_l03Any.calls a0_0 a0_1 a0_2 a0_3 a0_4 a0_5 false _ A2.out).mono ?_
    rintro e w26 ⟨rfl, hb⟩; refine ⟨_, rfl, ?_⟩
    have n_ := an_ (blk_below (pk_ Ja.out) hb) <| D (below_step (pB_ HB.out) hb)
    clear Ja HB;obtain ⟨Ja,HB⟩:=n_;refine hK.out _ _ (be6_ Ja.out) (fun hHeld=>?_);clear hK K;refine nx_ (N:=some 4) ?_;refine pb_ 2 ?_;refine pb_ 3 ?_;refine tb_ 4 rfl rfl hHeld Z18 ?_;refine oa_ 5 8 31 63 HT_ (fun K hK=>?_);refine goes_ Try.func56 (by kernel_rfl) rfl #[.agg #[I L a0_0,I L a0_1,I L a0_2,I L a0_3,I L a0_4]] (by rfl) rfl rfl Z15 ?_;with_reducible refine (spec_AddrOk.calls a0_0 a0_1 a0_2 a0_3 a0_4 true _ A7.out).mono ?_
    rintro e w27 ⟨rfl, hb⟩; refine ⟨_, rfl, ?_⟩
    have n_ := an_ (blk_below (pk_ Ja.out) hb) <| D (below_step (pB_ HB.out) hb)
    clear Ja HB;obtain ⟨Ja,HB⟩:=n_;refine hK.out _ _ (be6_ Ja.out) (fun hHeld=>?_);clear hK K;refine nx_ (N:=some 8) ?_;refine pb_ 6 ?_;refine pb_ 7 ?_;refine tb_ 8 rfl rfl hHeld Z18 ?_;refine pb_ 9 ?_;refine pb_ 10 ?_;refine pb_ 11 ?_;refine ob_ 12 ?_;refine ob_ 13 ?_;refine ob_ 14 ?_;refine ob_ 15 ?_;refine ob_ 16 ?_;refine ob_ 17 ?_;refine pb_ 18 ?_;refine pb_ 19 ?_;refine ob_ 20 ?_;refine ob_ 21 ?_;refine ob_ 22 ?_;refine ob_ 23 ?_;refine ob_ 24 ?_;refine ob_ 25 ?_;refine ob_ 26 ?_;refine ob_ 27 ?_;refine pb_ 28 ?_;refine pb_ 29 ?_;refine pb_ 30 ?_;refine done_ (done_of HT_.out (by kernel_rfl)) ?_
    try go_wp2
    go_ret; exact ⟨er_, pB_ HB.out⟩
  ·replace c8 := Bool.eq_false_iff.mpr c8
   subst c8; rw [if_neg (show ¬ (false = true) by decide)] at H; obtain rfl := Option.some.inj H; go_enter Try.func45, Try.ntmps45
   try go_wp2_with (first|((with_reducible refine gate_dst (N:=1) rfl ?_);refine bx_ (N:=1) (cs:=#[I L a0_0,I L a0_1,I L a0_2,I L a0_3,I L a0_4,I L a0_5]) (t:=34) ?_;intro Ka hg w28 hbox hb;have n_:=an_ (below_step (pB_ HB.out) hb)<|an_ (hbox)<|an_ (bg_ hg (pB_ HB.out):w.heap.size≤Ka)<|D (bg_ hg (pB_ HB.out):w.heap.size≤Ka);clear HB;obtain ⟨HB,Ja,Oa,Ua⟩:=n_;clear hb hbox hg))
   have n_ := an_ (blk_drew Ja.out) <| D (below_drew1 HB.out)
   clear Ja HB;obtain ⟨Ja,HB⟩:=n_;refine start_ (n:=31) (S:=fun w'=>w'.cell? ⟨Ka,0,none⟩=some (I L a0_0)∧w'.cell? ⟨Ka,1,none⟩=some (I L a0_1)∧w'.cell? ⟨Ka,2,none⟩=some (I L a0_2)∧w'.cell? ⟨Ka,3,none⟩=some (I L a0_3)∧w'.cell? ⟨Ka,4,none⟩=some (I L a0_4)∧w'.cell? ⟨Ka,5,none⟩=some (I L a0_5)) (ds:=[]) (bz 31 0) (by kernel_rfl) rfl (by kernel_rfl) (be6_ Ja.out) (fun hHeld=>?_);refine with_tabW spec_PrefixOk.tab1 spec_PrefixOk.bits1 (fun HT_ HW_=>?_);generalize w28.drew=w29 at Ja HB hHeld ⊢;refine tb_ 0 rfl rfl hHeld Z18 ?_;refine oa_ 1 4 31 3 HT_ (fun K hK=>?_);refine goes_ Try.func44 (by kernel_rfl) rfl #[.agg #[I L a0_0,I L a0_1,I L a0_2,I L a0_3,I L a0_4,I L a0_5]] (by rfl) rfl rfl Z15 ?_;with_reducible refine (spec_l03Any.calls a0_0 a0_1 a0_2 a0_3 a0_4 a0_5 false _ A2.out).mono ?_
   rintro e w30 ⟨rfl, hb⟩; refine ⟨_, rfl, ?_⟩
   have n_ := an_ (blk_below (pk_ Ja.out) hb) <| D (below_step (pB_ HB.out) hb)
   clear Ja HB;obtain ⟨Ja,HB⟩:=n_;refine hK.out _ _ (be6_ Ja.out) (fun hHeld=>?_);clear hK K;refine nx_ (N:=some 4) ?_;refine pb_ 2 ?_;refine pb_ 3 ?_;refine tb_ 4 rfl rfl hHeld Z18 ?_;refine oa_ 5 8 31 63 HT_ (fun K hK=>?_);refine goes_ Try.func56 (by kernel_rfl) rfl #[.agg #[I L a0_0,I L a0_1,I L a0_2,I L a0_3,I L a0_4]] (by rfl) rfl rfl Z15 ?_;with_reducible refine (spec_AddrOk.calls a0_0 a0_1 a0_2 a0_3 a0_4 false _ A7.out).mono ?_
   rintro e w31 ⟨rfl, hb⟩; refine ⟨_, rfl, ?_⟩
   have n_ := an_ (blk_below (pk_ Ja.out) hb) <| D (below_step (pB_ HB.out) hb)
   clear Ja HB;obtain ⟨Ja,HB⟩:=n_;refine hK.out _ _ (be6_ Ja.out) (fun hHeld=>?_);clear hK K;refine nx_ (N:=some 8) ?_;refine pb_ 6 ?_;refine ob_ 7 ?_;refine ob_ 8 ?_;refine ob_ 9 ?_;refine pb_ 10 ?_;refine pb_ 11 ?_;refine ob_ 12 ?_;refine ob_ 13 ?_;refine ob_ 14 ?_;refine ob_ 15 ?_;refine ob_ 16 ?_;refine ob_ 17 ?_;refine pb_ 18 ?_;refine pb_ 19 ?_;refine ob_ 20 ?_;refine ob_ 21 ?_;refine ob_ 22 ?_;refine ob_ 23 ?_;refine ob_ 24 ?_;refine ob_ 25 ?_;refine ob_ 26 ?_;refine ob_ 27 ?_;refine pb_ 28 ?_;refine pb_ 29 ?_;refine pb_ 30 ?_;refine done_ (done_of HT_.out (by kernel_rfl)) ?_
   try go_wp2
   go_ret; exact ⟨er_, pB_ HB.out⟩

/-! ### spec_l09Range: function 46 -/
def spec_l09Range.f (a0 a1 : Int) : Option (Bool) := if 0 ≤ a0 then (if a0 ≤ a1 then (some (decide (a1 ≤ 65535))) else (some false)) else (some false)
set_option maxHeartbeats 8000000 in
set_option maxRecDepth 100000 in
theorem spec_l09Range.calls (a0 a1 : Int) (r : Bool) (w : World) (h : spec_l09Range.f a0 a1 = some r) :
  Calls Try.prog 46 #[I L a0, I L a1] w fun e w' => e = .returned (.bool r) ∧ Drawn0 w w' := by
 have H : (if 0 ≤ a0 then (if a0 ≤ a1 then (some (decide (a1 ≤ 65535))) else (some false)) else (some false)) = some r := h
 clear h
 by_cases c3 : 0 ≤ a0
 ·rw [if_pos c3] at H
  have c3b0 : decide (0 ≤ a0) = true := decide_eq_true c3; clear c3
  by_cases c4 : a0 ≤ a1
  ·rw [if_pos c4] at H
   have c4b0 : decide (a0 ≤ a1) = true := decide_eq_true c4; clear c4; obtain rfl := Option.some.inj H; go_enter Try.func46, Try.ntmps46
   go_wp2
   go_ret; exact ⟨by first | rfl | (simp; done) | (simp [*]; done), by repeat (first | exact Drawn0.refl _ | apply Drawn0.step)⟩
  ·rw [if_neg c4] at H
   have c4b0 : decide (a0 ≤ a1) = false := decide_eq_false c4; clear c4; obtain rfl := Option.some.inj H; go_enter Try.func46, Try.ntmps46
   go_wp2
   go_ret; exact ⟨by first | rfl | (simp; done) | (simp [*]; done), by repeat (first | exact Drawn0.refl _ | apply Drawn0.step)⟩
 ·rw [if_neg c3] at H
  have c3b0 : decide (0 ≤ a0) = false := decide_eq_false c3; clear c3; obtain rfl := Option.some.inj H; go_enter Try.func46, Try.ntmps46
  go_wp2
  go_ret; exact ⟨by first | rfl | (simp; done) | (simp [*]; done), by repeat (first | exact Drawn0.refl _ | apply Drawn0.step)⟩

/-! ### spec_l10Twins: function 47 -/
def spec_l10Twins.f (k : Nat) (a0_0 a0_1 a0_2 a0_3 a0_4 a0_5 a1_0 a1_1 a1_2 a1_3 a1_4 a1_5 : Int) : Option (Bool) := (spec_PrefixOk.f k a0_0 a0_1 a0_2 a0_3 a0_4 a0_5).bind fun t517 => (if t517 = true then ((spec_PrefixOk.f k a1_0 a1_1 a1_2 a1_3 a1_4 a1_5).bind fun t518 => (if t518 = true then ((spec_l03Any.f a0_0 a0_1 a0_2 a0_3 a0_4 a0_5).bind fun t519 => (if t519 = true then (some false) else ((spec_l03Any.f a1_0 a1_1 a1_2 a1_3 a1_4 a1_5).bind fun t520 => (if t520 = true then (some false) else (if a0_0 = a1_0 then (some (a0_5 == a1_5)) else (some false)))))) else (some false))) else (some false))
set_option maxHeartbeats 8000000 in
set_option maxRecDepth 100000 in
theorem spec_l10Twins.calls (k : Nat) (a0_0 a0_1 a0_2 a0_3 a0_4 a0_5 a1_0 a1_1 a1_2 a1_3 a1_4 a1_5 : Int) (r : Bool) (w : World) (h : spec_l10Twins.f k a0_0 a0_1 a0_2 a0_3 a0_4 a0_5 a1_0 a1_1 a1_2 a1_3 a1_4 a1_5 = some r) :
  Calls Try.prog 47 #[.agg #[I L a0_0,I L a0_1,I L a0_2,I L a0_3,I L a0_4,I L a0_5],.agg #[I L a1_0,I L a1_1,I L a1_2,I L a1_3,I L a1_4,I L a1_5]] w fun e w'=>e=.returned (.bool r)∧Below w.heap.size w w':=by
 have hu34 := Try.underlying34
 have HB := D (Below.refl w.heap.size w)
 have H:((spec_PrefixOk.f k a0_0 a0_1 a0_2 a0_3 a0_4 a0_5).bind fun Ub=>(if Ub=true then ((spec_PrefixOk.f k a1_0 a1_1 a1_2 a1_3 a1_4 a1_5).bind fun Xb=>(if Xb=true then ((spec_l03Any.f a0_0 a0_1 a0_2 a0_3 a0_4 a0_5).bind fun Jc=>(if Jc=true then (some false) else ((spec_l03Any.f a1_0 a1_1 a1_2 a1_3 a1_4 a1_5).bind fun Kc=>(if Kc=true then (some false) else (if a0_0=a1_0 then (some (a0_5 == a1_5)) else (some false)))))) else (some false))) else (some false)))=some r:=h
 clear h
 obtain ⟨Ub, A30, H⟩ := bs_.mp H
 (try dsimp only at H)
 have A3 := D A30
 clear A30
 by_cases c4 : Ub = true
 ·subst c4
  rw [if_pos rfl] at H; obtain ⟨Xb, A50, H⟩ := bs_.mp H; (try dsimp only at H); have A5 := D A50; clear A50
  by_cases c6 : Xb = true
  ·subst c6
   rw [if_pos rfl] at H; obtain ⟨Jc, A70, H⟩ := bs_.mp H; (try dsimp only at H); have A7 := D A70; clear A70
   by_cases c8 : Jc = true
   ·subst c8
    rw [if_pos rfl] at H; obtain rfl := Option.some.inj H; go_enter Try.func47, Try.ntmps47
    go_wp2_with (first|((with_reducible refine gate_dst (N:=2) rfl ?_);refine bx_ (N:=2) (cs:=#[I L a0_0,I L a0_1,I L a0_2,I L a0_3,I L a0_4,I L a0_5]) (t:=34) ?_;intro Ma hg w9 hbox hb;have n_:=an_ (below_step (pB_ HB.out) hb)<|an_ (hbox)<|an_ (bg_ hg (pB_ HB.out):w.heap.size≤Ma)<|D (bg_ hg (pB_ HB.out):w.heap.size≤Ma);clear HB;obtain ⟨HB,Ja,Jb,Kb⟩:=n_;clear hb hbox hg)|((with_reducible refine gate_dst (N:=3) rfl ?_);refine bx_ (N:=3) (cs:=#[I L a1_0,I L a1_1,I L a1_2,I L a1_3,I L a1_4,I L a1_5]) (t:=34) ?_;intro Oa hg w10 hbox hb;have n_:=an_ (blk_below (pk_ Ja.out) hb)<|an_ (below_step (pB_ HB.out) hb)<|an_ (hbox)<|an_ (bg_ hg (pB_ HB.out):w.heap.size≤Oa)<|an_ (bg_ hg (pB_ HB.out):w.heap.size≤Oa)<|an_ (nl_ hg (pk_ Ja.out):Ma≠Oa)<|D (by rw [hg];exact Nat.ne_of_gt (blk_lt (pk_ Ja.out)):Oa≠Ma);clear Ja HB;obtain ⟨Ja,HB,Ka,Mb,Ob,Ua,Xa⟩:=n_;clear hb hbox hg;(try have:=Ua.out);(try have:=Xa.out);have Mc:=cells6 Ja.out)|((with_reducible refine gate_callee (f:=45) rfl ?_);refine goesL_ (some 6) rfl rfl Try.func45 (by kernel_rfl) rfl #[.agg #[I L a0_0,I L a0_1,I L a0_2,I L a0_3,I L a0_4,I L a0_5]] rfl Z15 ?_;(with_reducible refine (spec_PrefixOk.calls k a0_0 a0_1 a0_2 a0_3 a0_4 a0_5 true _ A3.out).mono ?_);rintro e w13 ⟨rfl,hb⟩;refine ⟨_,rfl,?_⟩;have n_:=an_ (blk_below (pk_ Ja.out) hb)<|an_ (blk_below (pk_ Ka.out) hb)<|D (below_step (pB_ HB.out) hb);clear Ja Ka HB;obtain ⟨Ja,Ka,HB⟩:=n_;(try clear hb);have Me:=cells6 Ka.out)|(go_at_call 45;(with_reducible refine (spec_PrefixOk.calls k a1_0 a1_1 a1_2 a1_3 a1_4 a1_5 true _ A5.out).mono ?_);rintro e w15 ⟨rfl,hb⟩;have n_:=an_ (blk_below (pk_ Ja.out) hb)<|an_ (blk_below (pk_ Ka.out) hb)<|D (below_step (pB_ HB.out) hb);clear Ja Ka HB;obtain ⟨Ja,Ka,HB⟩:=n_;(try clear hb);have Mg:=cells6 Ja.out)|(go_at_call 44;(with_reducible refine (spec_l03Any.calls a0_0 a0_1 a0_2 a0_3 a0_4 a0_5 true _ A7.out).mono ?_);rintro e w17 ⟨rfl,hb⟩;have n_:=an_ (blk_below (pk_ Ja.out) hb)<|an_ (blk_below (pk_ Ka.out) hb)<|D (below_step (pB_ HB.out) hb);clear Ja Ka HB;obtain ⟨Ja,Ka,HB⟩:=n_;(try clear hb)))
    go_ret; exact ⟨er_, pB_ HB.out⟩
   ·replace c8 := Bool.eq_false_iff.mpr c8
    subst c8; rw [if_neg (show ¬ (false = true) by decide)] at H; obtain ⟨Kc, A180, H⟩ := bs_.mp H; (try dsimp only at H); have A18 := D A180; clear A180
    by_cases c19 : Kc = true
    ·subst c19
     rw [if_pos rfl] at H; obtain rfl := Option.some.inj H; go_enter Try.func47, Try.ntmps47
     go_wp2_with (first|((with_reducible refine gate_dst (N:=2) rfl ?_);refine bx_ (N:=2) (cs:=#[I L a0_0,I L a0_1,I L a0_2,I L a0_3,I L a0_4,I L a0_5]) (t:=34) ?_;intro Ma hg w20 hbox hb;have n_:=an_ (below_step (pB_ HB.out) hb)<|an_ (hbox)<|an_ (bg_ hg (pB_ HB.out):w.heap.size≤Ma)<|D (bg_ hg (pB_ HB.out):w.heap.size≤Ma);clear HB;obtain ⟨HB,Ja,Jb,Kb⟩:=n_;clear hb hbox hg)|((with_reducible refine gate_dst (N:=3) rfl ?_);refine bx_ (N:=3) (cs:=#[I L a1_0,I L a1_1,I L a1_2,I L a1_3,I L a1_4,I L a1_5]) (t:=34) ?_;intro Oa hg w21 hbox hb;have n_:=an_ (blk_below (pk_ Ja.out) hb)<|an_ (below_step (pB_ HB.out) hb)<|an_ (hbox)<|an_ (bg_ hg (pB_ HB.out):w.heap.size≤Oa)<|an_ (bg_ hg (pB_ HB.out):w.heap.size≤Oa)<|an_ (nl_ hg (pk_ Ja.out):Ma≠Oa)<|D (by rw [hg];exact Nat.ne_of_gt (blk_lt (pk_ Ja.out)):Oa≠Ma);clear Ja HB;obtain ⟨Ja,HB,Ka,Mb,Ob,Ua,Xa⟩:=n_;clear hb hbox hg;(try have:=Ua.out);(try have:=Xa.out);have Mi:=cells6 Ja.out)|((with_reducible refine gate_callee (f:=45) rfl ?_);refine goesL_ (some 6) rfl rfl Try.func45 (by kernel_rfl) rfl #[.agg #[I L a0_0,I L a0_1,I L a0_2,I L a0_3,I L a0_4,I L a0_5]] rfl Z15 ?_;(with_reducible refine (spec_PrefixOk.calls k a0_0 a0_1 a0_2 a0_3 a0_4 a0_5 true _ A3.out).mono ?_);rintro e w24 ⟨rfl,hb⟩;refine ⟨_,rfl,?_⟩;have n_:=an_ (blk_below (pk_ Ja.out) hb)<|an_ (blk_below (pk_ Ka.out) hb)<|D (below_step (pB_ HB.out) hb);clear Ja Ka HB;obtain ⟨Ja,Ka,HB⟩:=n_;(try clear hb);have Mk:=cells6 Ka.out)|(go_at_call 45;(with_reducible refine (spec_PrefixOk.calls k a1_0 a1_1 a1_2 a1_3 a1_4 a1_5 true _ A5.out).mono ?_);rintro e w26 ⟨rfl,hb⟩;have n_:=an_ (blk_below (pk_ Ja.out) hb)<|an_ (blk_below (pk_ Ka.out) hb)<|D (below_step (pB_ HB.out) hb);clear Ja Ka HB;obtain ⟨Ja,Ka,HB⟩:=n_;(try clear hb);have Mn:=cells6 Ja.out)|(go_at_call 44;(with_reducible refine (spec_l03Any.calls a0_0 a0_1 a0_2 a0_3 a0_4 a0_5 false _ A7.out).mono ?_);rintro e w28 ⟨rfl,hb⟩;have n_:=an_ (blk_below (pk_ Ja.out) hb)<|an_ (blk_below (pk_ Ka.out) hb)<|D (below_step (pB_ HB.out) hb);clear Ja Ka HB;obtain ⟨Ja,Ka,HB⟩:=n_;(try clear hb);have Mp:=cells6 Ka.out)|(go_at_call 44;(with_reducible refine (spec_l03Any.calls a1_0 a1_1 a1_2 a1_3 a1_4 a1_5 true _ A18.out).mono ?_);rintro e w30 ⟨rfl,hb⟩;have n_:=an_ (blk_below (pk_ Ja.out) hb)<|an_ (blk_below (pk_ Ka.out) hb)<|D (below_step (pB_ HB.out) hb);clear Ja Ka HB;obtain ⟨Ja,Ka,HB⟩:=n_;(try clear hb)))
     go_ret; exact ⟨er_, pB_ HB.out⟩
    ·replace c19 := Bool.eq_false_iff.mpr c19
     subst c19; rw [if_neg (show ¬ (false = true) by decide)] at H
     by_cases c31 : a0_0 = a1_0
     ·rw [if_pos c31] at H
      have c31b0:(a0_0 == a1_0)=true:=beq_iff_eq.mpr c31;have c31b1:(a0_0 != a1_0)=false:=bne_eq_false_iff_eq.mpr c31;clear c31;obtain rfl:=Option.some.inj H;go_enter Try.func47,Try.ntmps47
      go_wp2_with (first|((with_reducible refine gate_dst (N:=2) rfl ?_);refine bx_ (N:=2) (cs:=#[I L a0_0,I L a0_1,I L a0_2,I L a0_3,I L a0_4,I L a0_5]) (t:=34) ?_;intro Ma hg w32 hbox hb;have n_:=an_ (below_step (pB_ HB.out) hb)<|an_ (hbox)<|an_ (bg_ hg (pB_ HB.out):w.heap.size≤Ma)<|D (bg_ hg (pB_ HB.out):w.heap.size≤Ma);clear HB;obtain ⟨HB,Ja,Jb,Kb⟩:=n_;clear hb hbox hg)|((with_reducible refine gate_dst (N:=3) rfl ?_);refine bx_ (N:=3) (cs:=#[I L a1_0,I L a1_1,I L a1_2,I L a1_3,I L a1_4,I L a1_5]) (t:=34) ?_;intro Oa hg w33 hbox hb;have n_:=an_ (blk_below (pk_ Ja.out) hb)<|an_ (below_step (pB_ HB.out) hb)<|an_ (hbox)<|an_ (bg_ hg (pB_ HB.out):w.heap.size≤Oa)<|an_ (bg_ hg (pB_ HB.out):w.heap.size≤Oa)<|an_ (nl_ hg (pk_ Ja.out):Ma≠Oa)<|D (by rw [hg];exact Nat.ne_of_gt (blk_lt (pk_ Ja.out)):Oa≠Ma);clear Ja HB;obtain ⟨Ja,HB,Ka,Mb,Ob,Ua,Xa⟩:=n_;clear hb hbox hg;(try have:=Ua.out);(try have:=Xa.out);have Mr:=cells6 Ja.out)|((with_reducible refine gate_callee (f:=45) rfl ?_);refine goesL_ (some 6) rfl rfl Try.func45 (by kernel_rfl) rfl #[.agg #[I L a0_0,I L a0_1,I L a0_2,I L a0_3,I L a0_4,I L a0_5]] rfl Z15 ?_;(with_reducible refine (spec_PrefixOk.calls k a0_0 a0_1 a0_2 a0_3 a0_4 a0_5 true _ A3.out).mono ?_);rintro e w36 ⟨rfl,hb⟩;refine ⟨_,rfl,?_⟩;have n_:=an_ (blk_below (pk_ Ja.out) hb)<|an_ (blk_below (pk_ Ka.out) hb)<|D (below_step (pB_ HB.out) hb);clear Ja Ka HB;obtain ⟨Ja,Ka,HB⟩:=n_;(try clear hb);have Mu:=cells6 Ka.out)|(go_at_call 45;(with_reducible refine (spec_PrefixOk.calls k a1_0 a1_1 a1_2 a1_3 a1_4 a1_5 true _ A5.out).mono ?_);rintro e w38 ⟨rfl,hb⟩;have n_:=an_ (blk_below (pk_ Ja.out) hb)<|an_ (blk_below (pk_ Ka.out) hb)<|D (below_step (pB_ HB.out) hb);clear Ja Ka HB;obtain ⟨Ja,Ka,HB⟩:=n_;(try clear hb);have Mx:=cells6 Ja.out)|(go_at_call 44;(with_reducible refine (spec_l03Any.calls a0_0 a0_1 a0_2 a0_3 a0_4 a0_5 false _ A7.out).mono ?_);rintro e w40 ⟨rfl,hb⟩;have n_:=an_ (blk_below (pk_ Ja.out) hb)<|an_ (blk_below (pk_ Ka.out) hb)<|D (below_step (pB_ HB.out) hb);clear Ja Ka HB;obtain ⟨Ja,Ka,HB⟩:=n_;(try clear hb);have Mz:=cells6 Ka.out)|(go_at_call 44;(with_reducible refine (spec_l03Any.calls a1_0 a1_1 a1_2 a1_3 a1_4 a1_5 false _ A18.out).mono ?_);rintro e w42 ⟨rfl,hb⟩;have n_:=an_ (blk_below (pk_ Ja.out) hb)<|an_ (blk_below (pk_ Ka.out) hb)<|D (below_step (pB_ HB.out) hb);clear Ja Ka HB;obtain ⟨Ja,Ka,HB⟩:=n_;(try clear hb);have Mb1:=cells6 Ja.out;have Md1:=cells6 Ka.out))
      go_ret; exact ⟨er_, pB_ HB.out⟩
     ·rw [if_neg c31] at H
      have c31b0 : (a0_0 == a1_0) = false := beq_eq_false_iff_ne.mpr c31; have c31b1 : (a0_0 != a1_0) = true := bne_iff_ne.mpr c31; obtain rfl := Option.some.inj H; go_enter Try.func47, Try.ntmps47
      go_wp2_with (first|((with_reducible refine gate_dst (N:=2) rfl ?_);refine bx_ (N:=2) (cs:=#[I L a0_0,I L a0_1,I L a0_2,I L a0_3,I L a0_4,I L a0_5]) (t:=34) ?_;intro Ma hg w45 hbox hb;have n_:=an_ (below_step (pB_ HB.out) hb)<|an_ (hbox)<|an_ (bg_ hg (pB_ HB.out):w.heap.size≤Ma)<|D (bg_ hg (pB_ HB.out):w.heap.size≤Ma);clear HB;obtain ⟨HB,Ja,Jb,Kb⟩:=n_;clear hb hbox hg)|((with_reducible refine gate_dst (N:=3) rfl ?_);refine bx_ (N:=3) (cs:=#[I L a1_0,I L a1_1,I L a1_2,I L a1_3,I L a1_4,I L a1_5]) (t:=34) ?_;intro Oa hg w46 hbox hb;have n_:=an_ (blk_below (pk_ Ja.out) hb)<|an_ (below_step (pB_ HB.out) hb)<|an_ (hbox)<|an_ (bg_ hg (pB_ HB.out):w.heap.size≤Oa)<|an_ (bg_ hg (pB_ HB.out):w.heap.size≤Oa)<|an_ (nl_ hg (pk_ Ja.out):Ma≠Oa)<|D (by rw [hg];exact Nat.ne_of_gt (blk_lt (pk_ Ja.out)):Oa≠Ma);clear Ja HB;obtain ⟨Ja,HB,Ka,Mb,Ob,Ua,Xa⟩:=n_;clear hb hbox hg;(try have:=Ua.out);(try have:=Xa.out);have Mf1:=cells6 Ja.out)|((with_reducible refine gate_callee (f:=45) rfl ?_);refine goesL_ (some 6) rfl rfl Try.func45 (by kernel_rfl) rfl #[.agg #[I L a0_0,I L a0_1,I L a0_2,I L a0_3,I L a0_4,I L a0_5]] rfl Z15 ?_;(with_reducible refine (spec_PrefixOk.calls k a0_0 a0_1 a0_2 a0_3 a0_4 a0_5 true _ A3.out).mono ?_);rintro e w49 ⟨rfl,hb⟩;refine ⟨_,rfl,?_⟩;have n_:=an_ (blk_below (pk_ Ja.out) hb)<|an_ (blk_below (pk_ Ka.out) hb)<|D (below_step (pB_ HB.out) hb);clear Ja Ka HB;obtain ⟨Ja,Ka,HB⟩:=n_;(try clear hb);have Mh1:=cells6 Ka.out)|(go_at_call 45;(with_reducible refine (spec_PrefixOk.calls k a1_0 a1_1 a1_2 a1_3 a1_4 a1_5 true _ A5.out).mono ?_);rintro e w51 ⟨rfl,hb⟩;have n_:=an_ (blk_below (pk_ Ja.out) hb)<|an_ (blk_below (pk_ Ka.out) hb)<|D (below_step (pB_ HB.out) hb);clear Ja Ka HB;obtain ⟨Ja,Ka,HB⟩:=n_;(try clear hb);have Mj1:=cells6 Ja.out)|(go_at_call 44;(with_reducible refine (spec_l03Any.calls a0_0 a0_1 a0_2 a0_3 a0_4 a0_5 false _ A7.out).mono ?_);rintro e w53 ⟨rfl,hb⟩;have n_:=an_ (blk_below (pk_ Ja.out) hb)<|an_ (blk_below (pk_ Ka.out) hb)<|D (below_step (pB_ HB.out) hb);clear Ja Ka HB;obtain ⟨Ja,Ka,HB⟩:=n_;(try clear hb);have Mm1:=cells6 Ka.out)|(go_at_call 44;(with_reducible refine (spec_l03Any.calls a1_0 a1_1 a1_2 a1_3 a1_4 a1_5 false _ A18.out).mono ?_);rintro e w55 ⟨rfl,hb⟩;have n_:=an_ (blk_below (pk_ Ja.out) hb)<|an_ (blk_below (pk_ Ka.out) hb)<|D (below_step (pB_ HB.out) hb);clear Ja Ka HB;obtain ⟨Ja,Ka,HB⟩:=n_;(try clear hb);have Mo1:=cells6 Ja.out;have Mq1:=cells6 Ka.out))
      go_ret; exact ⟨er_, pB_ HB.out⟩
  ·replace c6 := Bool.eq_false_iff.mpr c6
   subst c6; rw [if_neg (show ¬ (false = true) by decide)] at H; obtain rfl := Option.some.inj H; go_enter Try.func47, Try.ntmps47
   go_wp2_with (first|((with_reducible refine gate_dst (N:=2) rfl ?_);refine bx_ (N:=2) (cs:=#[I L a0_0,I L a0_1,I L a0_2,I L a0_3,I L a0_4,I L a0_5]) (t:=34) ?_;intro Ma hg w58 hbox hb;have n_:=an_ (below_step (pB_ HB.out) hb)<|an_ (hbox)<|an_ (bg_ hg (pB_ HB.out):w.heap.size≤Ma)<|D (bg_ hg (pB_ HB.out):w.heap.size≤Ma);clear HB;obtain ⟨HB,Ja,Jb,Kb⟩:=n_;clear hb hbox hg)|((with_reducible refine gate_dst (N:=3) rfl ?_);refine bx_ (N:=3) (cs:=#[I L a1_0,I L a1_1,I L a1_2,I L a1_3,I L a1_4,I L a1_5]) (t:=34) ?_;intro Oa hg w59 hbox hb;have n_:=an_ (blk_below (pk_ Ja.out) hb)<|an_ (below_step (pB_ HB.out) hb)<|an_ (hbox)<|an_ (bg_ hg (pB_ HB.out):w.heap.size≤Oa)<|an_ (bg_ hg (pB_ HB.out):w.heap.size≤Oa)<|an_ (nl_ hg (pk_ Ja.out):Ma≠Oa)<|D (by rw [hg];exact Nat.ne_of_gt (blk_lt (pk_ Ja.out)):Oa≠Ma);clear Ja HB;obtain ⟨Ja,HB,Ka,Mb,Ob,Ua,Xa⟩:=n_;clear hb hbox hg;(try have:=Ua.out);(try have:=Xa.out);have Ms1:=cells6 Ja.out)|((with_reducible refine gate_callee (f:=45) rfl ?_);refine goesL_ (some 6) rfl rfl Try.func45 (by kernel_rfl) rfl #[.agg #[I L a0_0,I L a0_1,I L a0_2,I L a0_3,I L a0_4,I L a0_5]] rfl Z15 ?_;(with_reducible refine (spec_PrefixOk.calls k a0_0 a0_1 a0_2 a0_3 a0_4 a0_5 true _ A3.out).mono ?_);rintro e w62 ⟨rfl,hb⟩;refine ⟨_,rfl,?_⟩;have n_:=an_ (blk_below (pk_ Ja.out) hb)<|an_ (blk_below (pk_ Ka.out) hb)<|D (below_step (pB_ HB.out) hb);clear Ja Ka HB;obtain ⟨Ja,Ka,HB⟩:=n_;(try clear hb);have Mv1:=cells6 Ka.out)|(go_at_call 45;(with_reducible refine (spec_PrefixOk.calls k a1_0 a1_1 a1_2 a1_3 a1_4 a1_5 false _ A5.out).mono ?_);rintro e w64 ⟨rfl,hb⟩;have n_:=an_ (blk_below (pk_ Ja.out) hb)<|an_ (blk_below (pk_ Ka.out) hb)<|D (below_step (pB_ HB.out) hb);clear Ja Ka HB;obtain ⟨Ja,Ka,HB⟩:=n_;(try clear hb)))
   go_ret; exact ⟨er_, pB_ HB.out⟩
 ·replace c4 := Bool.eq_false_iff.mpr c4
  subst c4; rw [if_neg (show ¬ (false = true) by decide)] at H; obtain rfl := Option.some.inj H; go_enter Try.func47, Try.ntmps47
  go_wp2_with (first|((with_reducible refine gate_dst (N:=2) rfl ?_);refine bx_ (N:=2) (cs:=#[I L a0_0,I L a0_1,I L a0_2,I L a0_3,I L a0_4,I L a0_5]) (t:=34) ?_;intro Ma hg w65 hbox hb;have n_:=an_ (below_step (pB_ HB.out) hb)<|an_ (hbox)<|an_ (bg_ hg (pB_ HB.out):w.heap.size≤Ma)<|D (bg_ hg (pB_ HB.out):w.heap.size≤Ma);clear HB;obtain ⟨HB,Ja,Jb,Kb⟩:=n_;clear hb hbox hg)|((with_reducible refine gate_dst (N:=3) rfl ?_);refine bx_ (N:=3) (cs:=#[I L a1_0,I L a1_1,I L a1_2,I L a1_3,I L a1_4,I L a1_5]) (t:=34) ?_;intro Oa hg w66 hbox hb;have n_:=an_ (blk_below (pk_ Ja.out) hb)<|an_ (below_step (pB_ HB.out) hb)<|an_ (hbox)<|an_ (bg_ hg (pB_ HB.out):w.heap.size≤Oa)<|an_ (bg_ hg (pB_ HB.out):w.heap.size≤Oa)<|an_ (nl_ hg (pk_ Ja.out):Ma≠Oa)<|D (by rw [hg];exact Nat.ne_of_gt (blk_lt (pk_ Ja.out)):Oa≠Ma);clear Ja HB;obtain ⟨Ja,HB,Ka,Mb,Ob,Ua,Xa⟩:=n_;clear hb hbox hg;(try have:=Ua.out);(try have:=Xa.out);have My1:=cells6 Ja.out)|((with_reducible refine gate_callee (f:=45) rfl ?_);refine goesL_ (some 6) rfl rfl Try.func45 (by kernel_rfl) rfl #[.agg #[I L a0_0,I L a0_1,I L a0_2,I L a0_3,I L a0_4,I L a0_5]] rfl Z15 ?_;(with_reducible refine (spec_PrefixOk.calls k a0_0 a0_1 a0_2 a0_3 a0_4 a0_5 false _ A3.out).mono ?_);rintro e w69 ⟨rfl,hb⟩;refine ⟨_,rfl,?_⟩;have n_:=an_ (blk_below (pk_ Ja.out) hb)<|an_ (blk_below (pk_ Ka.out) hb)<|D (below_step (pB_ HB.out) hb);clear Ja Ka HB;obtain ⟨Ja,Ka,HB⟩:=n_;(try clear hb)))
  go_ret; exact ⟨er_, pB_ HB.out⟩

/-! ### spec_l05In: function 48 -/
def spec_l05In.f (a0 a1 : Int) : Option (Bool) := if a0 ≥ 0 then (some (decide (a0 ≤ a1))) else (some false)
set_option maxHeartbeats 8000000 in
set_option maxRecDepth 100000 in
theorem spec_l05In.calls (a0 a1 : Int) (r : Bool) (w : World) (h : spec_l05In.f a0 a1 = some r) :
  Calls Try.prog 48 #[I L a0, I L a1] w fun e w' => e = .returned (.bool r) ∧ Drawn0 w w' := by
 have H : (if a0 ≥ 0 then (some (decide (a0 ≤ a1))) else (some false)) = some r := h
 clear h
 by_cases c3 : a0 ≥ 0
 ·rw [if_pos c3] at H
  have c3b0 : decide (0 ≤ a0) = true := decide_eq_true c3; clear c3; obtain rfl := Option.some.inj H; go_enter Try.func48, Try.ntmps48
  go_wp2
  go_ret; exact ⟨by first | rfl | (simp; done) | (simp [*]; done), by repeat (first | exact Drawn0.refl _ | apply Drawn0.step)⟩
 ·rw [if_neg c3] at H
  have c3b0 : decide (0 ≤ a0) = false := decide_eq_false c3; clear c3; obtain rfl := Option.some.inj H; go_enter Try.func48, Try.ntmps48
  go_wp2
  go_ret; exact ⟨by first | rfl | (simp; done) | (simp [*]; done), by repeat (first | exact Drawn0.refl _ | apply Drawn0.step)⟩

end Go.Proofs.Ytoacddcbiceeeab.PFnCostAdds
