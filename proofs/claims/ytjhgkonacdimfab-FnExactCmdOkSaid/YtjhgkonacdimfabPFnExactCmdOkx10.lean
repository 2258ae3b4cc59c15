-- by a program of this session's, over the kit's words
import Derived.Test.YtjhgkonacdimfabPZFnExactCmdOk
import Derived.Test.YtjhgkonacdimfabPFnExactCmdOkx0
import Derived.Test.YtjhgkonacdimfabPFnExactCmdOkx1
import Derived.Test.YtjhgkonacdimfabPFnExactCmdOkx8
import Derived.Test.YtjhgkonacdimfabPFnExactCmdOkx9
namespace Go.Proofs.Ytjhgkonacdimfab.PFnExactCmdOk
open Go.RowKit Go.Proofs.YtjhgkonacdimfabW.PrintWords Go.Proofs.YtjhgkonacdimfabW.PrintLast Go.Proofs.YtjhgkonacdimfabW.PrintMore Go.Proofs.YtjhgkonacdimfabV Go.Proofs.Ytjhgkonacdimfab.ZFnExactCmdOk
open Go.Value renaming int → I, slice → Y
open Go.IntKind renaming i64 → L
open Aside0 renaming mk → D
open Option renaming bind_eq_some_iff → bs_
attribute [local go_sem] max2_int min2_int max_two min_two max_three min_three max_four min_four   -- for this text's walks alone
set_option linter.unusedVariables false
set_option linter.unusedSimpArgs false

attribute [local go_sem high] eqA35
/-! ### spec_PrefixOk: function 27 -/
def spec_PrefixOk.f (k : Nat) (a0_0 a0_1 a0_2 a0_3 a0_4 a0_5 : Int) : Option (Bool) := (spec_l03Any.f a0_0 a0_1 a0_2 a0_3 a0_4 a0_5).bind fun t183 => (if t183 = true then (some true) else ((spec_AddrOk.f a0_0 a0_1 a0_2 a0_3 a0_4).bind fun t184 => (if t184 = true then (if a0_5 ≥ 0 then ((spec_l03Bits.f a0_0 a0_1 a0_2 a0_3 a0_4).bind fun t185 => (if a0_5 ≤ t185 then ((spec_Cut.f k a0_0 a0_1 a0_2 a0_3 a0_4 a0_5).bind fun bt186 => (some (bt186.1 == a0_0 && (bt186.2.1 == a0_1 && (bt186.2.2.1 == a0_2 && (bt186.2.2.2.1 == a0_3 && (bt186.2.2.2.2 == a0_4))))))) else (some false))) else (some false)) else (some false))))
def spec_PrefixOk.T1 : Bool × List (List Nat × List Nat) := (true, [([], []), ([0], [0]), ([1, 1], [1]), ([2], [2]), ([3, 2], [2, 3]), ([4, 2, 2], [2, 4]), ([5, 5, 2], [2, 5]), ([6], [6]), ([7, 6], [6, 7]), ([8, 6], [6, 8]), ([6, 9, 2], [2, 6, 9]), ([10, 6, 2], [2, 10]), ([11], [11]), ([12, 11], [11, 12]), ([11], [11]), ([14, 11], [11, 14]), ([15, 11, 11], [11, 15]), ([13, 16, 11], [11, 13, 16]), ([11, 17, 2], [2, 11, 17]), ([18, 16, 2], [2, 18]), ([19], [19]), ([20, 19], [19, 20]), ([19], [19]), ([22, 19], [19, 22]), ([21, 23, 19, 19], [19, 21, 23]), ([19], [19]), ([25, 19], [19, 25]), ([24, 26, 19], [19, 24, 26]), ([19, 27, 2], [2, 19, 27]), ([2, 28], [2, 28]), ([29, 24, 0, 1, 2, 3, 4, 5, 6, 7, 8, 9, 10, 11, 12, 13, 14, 15, 16, 17, 18, 19, 20, 21, 22, 23, 24, 25, 26, 27, 28, 29], [29])])
def spec_PrefixOk.B1 : List Nat := [0, 1, 3, 7, 15, 31, 63, 127, 255, 511, 1023, 2047, 4095, 8191, 4095, 20479, 53247, 131071, 262143, 524287, 1048575, 2097151, 1048575, 5242879, 16777215, 1048575, 34603007, 134217727, 268435455, 536870911, 1073741823]
theorem spec_PrefixOk.tab1 : rtab .any (opsOf Try.f27 1) = spec_PrefixOk.T1 := by kernel_rfl
theorem spec_PrefixOk.bits1 : waitsOk spec_PrefixOk.T1.2 spec_PrefixOk.B1 = true := by kernel_rfl
set_option maxHeartbeats 8000000 in
set_option maxRecDepth 100000 in
theorem spec_PrefixOk.calls (k : Nat) (a0_0 a0_1 a0_2 a0_3 a0_4 a0_5 : Int) (r : Bool) (w : World) (h : spec_PrefixOk.f k a0_0 a0_1 a0_2 a0_3 a0_4 a0_5 = some r) :
  Calls Try.prog 27 #[.agg #[I L a0_0, I L a0_1, I L a0_2, I L a0_3, I L a0_4, I L a0_5]] w fun e w' => e = .returned (.bool r) ∧ Below w.heap.size w w' := by
 have hu37 := Try.underlying37
 have hu35 := Try.underlying35
 have HB := D (Below.refl w.heap.size w)
 have H:((spec_l03Any.f a0_0 a0_1 a0_2 a0_3 a0_4 a0_5).bind fun Xa=>(if Xa=true then (some true) else ((spec_AddrOk.f a0_0 a0_1 a0_2 a0_3 a0_4).bind fun Jb=>(if Jb=true then (if a0_5 ≥ 0 then ((spec_l03Bits.f a0_0 a0_1 a0_2 a0_3 a0_4).bind fun Ma=>(if a0_5≤Ma then ((spec_Cut.f k a0_0 a0_1 a0_2 a0_3 a0_4 a0_5).bind fun bt186=>(some (bt186.1 == a0_0 && (bt186.2.1 == a0_1 && (bt186.2.2.1 == a0_2 && (bt186.2.2.2.1 == a0_3 && (bt186.2.2.2.2 == a0_4))))))) else (some false))) else (some false)) else (some false)))))=some r:=h
 clear h
 obtain ⟨Xa, A20, H⟩ := bs_.mp H
 (try dsimp only at H)
 have A2 := D A20
 clear A20
 by_cases c3 : Xa = true
 ·subst c3
  rw [if_pos rfl] at H; obtain rfl := Option.some.inj H; go_enter Try.func27, Try.ntmps27
  try go_wp2_with (first|((with_reducible refine gate_dst (N:=1) rfl ?_);refine bx_ (N:=1) (cs:=#[I L a0_0,I L a0_1,I L a0_2,I L a0_3,I L a0_4,I L a0_5]) (t:=37) ?_;intro Ka hg w4 hbox hb;have n_:=an_ (below_step (pB_ HB.out) hb)<|an_ (hbox)<|an_ (bg_ hg (pB_ HB.out):w.heap.size≤Ka)<|D (bg_ hg (pB_ HB.out):w.heap.size≤Ka);clear HB;obtain ⟨HB,Ja,Oa,Ua⟩:=n_;clear hb hbox hg))
  have n_ := an_ (blk_drew Ja.out) <| D (below_drew1 HB.out)
  clear Ja HB;obtain ⟨Ja,HB⟩:=n_;refine start_ (n:=31) (S:=fun w'=>w'.cell? ⟨Ka,0,none⟩=some (I L a0_0)∧w'.cell? ⟨Ka,1,none⟩=some (I L a0_1)∧w'.cell? ⟨Ka,2,none⟩=some (I L a0_2)∧w'.cell? ⟨Ka,3,none⟩=some (I L a0_3)∧w'.cell? ⟨Ka,4,none⟩=some (I L a0_4)∧w'.cell? ⟨Ka,5,none⟩=some (I L a0_5)) (ds:=[]) (bz 31 0) (by kernel_rfl) rfl (by kernel_rfl) (be6_ Ja.out) (fun hHeld=>?_);refine with_tabW spec_PrefixOk.tab1 spec_PrefixOk.bits1 (fun HT_ HW_=>?_);generalize w4.drew=w5 at Ja HB hHeld ⊢;refine tb_ 0 rfl rfl hHeld Z8 ?_;refine oa_ 1 4 31 3 HT_ (fun K hK=>?_);refine goes_ Try.func41 (by kernel_rfl) rfl #[.agg #[I L a0_0,I L a0_1,I L a0_2,I L a0_3,I L a0_4,I L a0_5]] (by rfl) rfl rfl Z6 ?_;with_reducible refine (spec_l03Any.calls a0_0 a0_1 a0_2 a0_3 a0_4 a0_5 true _ A2.out).mono ?_
  rintro e w6 ⟨rfl, hb⟩; refine ⟨_, rfl, ?_⟩
  have n_ := an_ (blk_below (pk_ Ja.out) hb) <| D (below_step (pB_ HB.out) hb)
  clear Ja HB;obtain ⟨Ja,HB⟩:=n_;refine hK.out _ _ (be6_ Ja.out) (fun hHeld=>?_);clear hK K;refine nx_ (N:=some 4) ?_;refine pb_ 2 ?_;refine ob_ 3 ?_;refine ob_ 4 ?_;refine ob_ 5 ?_;refine ob_ 6 ?_;refine ob_ 7 ?_;refine ob_ 8 ?_;refine ob_ 9 ?_;refine ob_ 10 ?_;refine ob_ 11 ?_;refine ob_ 12 ?_;refine ob_ 13 ?_;refine ob_ 14 ?_;refine ob_ 15 ?_;refine ob_ 16 ?_;refine ob_ 17 ?_;refine ob_ 18 ?_;refine ob_ 19 ?_;refine ob_ 20 ?_;refine ob_ 21 ?_;refine ob_ 22 ?_;refine ob_ 23 ?_;refine ob_ 24 ?_;refine ob_ 25 ?_;refine ob_ 26 ?_;refine ob_ 27 ?_;refine ob_ 28 ?_;refine pb_ 29 ?_;refine pb_ 30 ?_;refine done_ (done_of HT_.out (by kernel_rfl)) ?_
  try go_wp2
  go_ret; exact ⟨er_, pB_ HB.out⟩
 ·replace c3 := Bool.eq_false_iff.mpr c3
  subst c3; rw [if_neg (show ¬ (false = true) by decide)] at H; obtain ⟨Jb, A70, H⟩ := bs_.mp H; (try dsimp only at H); have A7 := D A70; clear A70
  by_cases c8 : Jb = true
  ·subst c8
   rw [if_pos rfl] at H
   by_cases c9 : a0_5 ≥ 0
   ·rw [if_pos c9] at H
    have c9b0 : decide (0 ≤ a0_5) = true := decide_eq_true c9; clear c9; obtain ⟨Ma, A100, H⟩ := bs_.mp H; (try dsimp only at H); have A10 := D A100; clear A100
    by_cases c11 : a0_5 ≤ Ma
    ·rw [if_pos c11] at H
     have c11b0:decide (a0_5≤Ma)=true:=decide_eq_true c11;clear c11;obtain ⟨⟨Kb,Mb,Ob,Ub,Xb⟩,A120,H⟩:=bs_.mp H;(try dsimp only at H);have A12:=D A120;clear A120;obtain rfl:=Option.some.inj H;go_enter Try.func27,Try.ntmps27
     try go_wp2_with (first|((with_reducible refine gate_dst (N:=1) rfl ?_);refine bx_ (N:=1) (cs:=#[I L a0_0,I L a0_1,I L a0_2,I L a0_3,I L a0_4,I L a0_5]) (t:=37) ?_;intro Ka hg w13 hbox hb;have n_:=an_ (below_step (pB_ HB.out) hb)<|an_ (hbox)<|an_ (bg_ hg (pB_ HB.out):w.heap.size≤Ka)<|D (bg_ hg (pB_ HB.out):w.heap.size≤Ka);clear HB;obtain ⟨HB,Ja,Oa,Ua⟩:=n_;clear hb hbox hg))
     have n_ := an_ (blk_drew Ja.out) <| D (below_drew1 HB.out)
     clear Ja HB;obtain ⟨Ja,HB⟩:=n_;refine start_ (n:=31) (S:=fun w'=>w'.cell? ⟨Ka,0,none⟩=some (I L a0_0)∧w'.cell? ⟨Ka,1,none⟩=some (I L a0_1)∧w'.cell? ⟨Ka,2,none⟩=some (I L a0_2)∧w'.cell? ⟨Ka,3,none⟩=some (I L a0_3)∧w'.cell? ⟨Ka,4,none⟩=some (I L a0_4)∧w'.cell? ⟨Ka,5,none⟩=some (I L a0_5)) (ds:=[]) (bz 31 0) (by kernel_rfl) rfl (by kernel_rfl) (be6_ Ja.out) (fun hHeld=>?_);refine with_tabW spec_PrefixOk.tab1 spec_PrefixOk.bits1 (fun HT_ HW_=>?_);generalize w13.drew=w14 at Ja HB hHeld ⊢;refine tb_ 0 rfl rfl hHeld Z8 ?_;refine oa_ 1 4 31 3 HT_ (fun K hK=>?_);refine goes_ Try.func41 (by kernel_rfl) rfl #[.agg #[I L a0_0,I L a0_1,I L a0_2,I L a0_3,I L a0_4,I L a0_5]] (by rfl) rfl rfl Z6 ?_;with_reducible refine (spec_l03Any.calls a0_0 a0_1 a0_2 a0_3 a0_4 a0_5 false _ A2.out).mono ?_
     rintro e w15 ⟨rfl, hb⟩; refine ⟨_, rfl, ?_⟩
     have n_ := an_ (blk_below (pk_ Ja.out) hb) <| D (below_step (pB_ HB.out) hb)
     clear Ja HB;obtain ⟨Ja,HB⟩:=n_;refine hK.out _ _ (be6_ Ja.out) (fun hHeld=>?_);clear hK K;refine nx_ (N:=some 4) ?_;refine pb_ 2 ?_;refine pb_ 3 ?_;refine tb_ 4 rfl rfl hHeld Z8 ?_;refine oa_ 5 8 31 63 HT_ (fun K hK=>?_);refine goes_ Try.func42 (by kernel_rfl) rfl #[.agg #[I L a0_0,I L a0_1,I L a0_2,I L a0_3,I L a0_4]] (by rfl) rfl rfl Z6 ?_;with_reducible refine (spec_AddrOk.calls a0_0 a0_1 a0_2 a0_3 a0_4 true _ A7.out).mono ?_
     rintro e w16 ⟨rfl, hb⟩; refine ⟨_, rfl, ?_⟩
     have n_ := an_ (blk_below (pk_ Ja.out) hb) <| D (below_step (pB_ HB.out) hb)
     clear Ja HB;obtain ⟨Ja,HB⟩:=n_;refine hK.out _ _ (be6_ Ja.out) (fun hHeld=>?_);clear hK K;refine nx_ (N:=some 8) ?_;refine pb_ 6 ?_;refine pb_ 7 ?_;refine tb_ 8 rfl rfl hHeld Z8 ?_;refine pb_ 9 ?_;refine pb_ 10 ?_;refine pb_ 11 ?_;refine pb_ 12 ?_;refine pb_ 14 ?_;refine tb_ 13 rfl rfl hHeld Z8 ?_;refine tb_ 15 rfl rfl hHeld Z8 ?_;refine oa_ 16 19 31 131071 HT_ (fun K hK=>?_);refine goes_ Try.func43 (by kernel_rfl) rfl #[.agg #[I L a0_0,I L a0_1,I L a0_2,I L a0_3,I L a0_4]] (by rfl) rfl rfl Z6 ?_;with_reducible refine (spec_l03Bits.calls a0_0 a0_1 a0_2 a0_3 a0_4 Ma _ A10.out).mono ?_
     rintro e w17 ⟨rfl, hb⟩; refine ⟨_, rfl, ?_⟩
     have n_ := an_ (blk_below (pk_ Ja.out) hb) <| D (below_step (pB_ HB.out) hb)
     clear Ja HB;obtain ⟨Ja,HB⟩:=n_;refine hK.out _ _ (be6_ Ja.out) (fun hHeld=>?_);clear hK K;refine nx_ (N:=some 19) ?_;refine pb_ 17 ?_;refine pb_ 18 ?_;refine pb_ 19 ?_;refine pb_ 20 ?_;refine pb_ 22 ?_;refine pb_ 25 ?_;refine tb_ 21 rfl rfl hHeld Z8 ?_;refine tb_ 23 rfl rfl hHeld Z8 ?_;refine tb_ 26 rfl rfl hHeld Z8 ?_;refine oa_ 24 27 31 134217727 HT_ (fun K hK=>?_);refine goes_ Try.func44 (by kernel_rfl) rfl #[.agg #[I L a0_0,I L a0_1,I L a0_2,I L a0_3,I L a0_4],I L a0_5] (by rfl) rfl rfl Z6 ?_;with_reducible refine (spec_Cut.calls k a0_0 a0_1 a0_2 a0_3 a0_4 a0_5 Kb Mb Ob Ub Xb _ A12.out).mono ?_
     rintro e w18 ⟨rfl, hb⟩; refine ⟨_, rfl, ?_⟩
     have n_ := an_ (blk_below (pk_ Ja.out) hb) <| D (below_step (pB_ HB.out) hb)
     clear Ja HB;obtain ⟨Ja,HB⟩:=n_;refine hK.out _ _ (be6_ Ja.out) (fun hHeld=>?_);clear hK K;refine nx_ (N:=some 27) ?_;refine pb_ 27 ?_;refine pb_ 28 ?_;refine pb_ 29 ?_;refine pb_ 30 ?_;refine done_ (done_of HT_.out (by kernel_rfl)) ?_
     try go_wp2
     go_ret; exact ⟨er_, pB_ HB.out⟩
    ·rw [if_neg c11] at H
     have c11b0 : decide (a0_5 ≤ Ma) = false := decide_eq_false c11; clear c11; obtain rfl := Option.some.inj H; go_enter Try.func27, Try.ntmps27
     try go_wp2_with (first|((with_reducible refine gate_dst (N:=1) rfl ?_);refine bx_ (N:=1) (cs:=#[I L a0_0,I L a0_1,I L a0_2,I L a0_3,I L a0_4,I L a0_5]) (t:=37) ?_;intro Ka hg w19 hbox hb;have n_:=an_ (below_step (pB_ HB.out) hb)<|an_ (hbox)<|an_ (bg_ hg (pB_ HB.out):w.heap.size≤Ka)<|D (bg_ hg (pB_ HB.out):w.heap.size≤Ka);clear HB;obtain ⟨HB,Ja,Oa,Ua⟩:=n_;clear hb hbox hg))
     have n_ := an_ (blk_drew Ja.out) <| D (below_drew1 HB.out)
     clear Ja HB;obtain ⟨Ja,HB⟩:=n_;refine start_ (n:=31) (S:=fun w'=>w'.cell? ⟨Ka,0,none⟩=some (I L a0_0)∧w'.cell? ⟨Ka,1,none⟩=some (I L a0_1)∧w'.cell? ⟨Ka,2,none⟩=some (I L a0_2)∧w'.cell? ⟨Ka,3,none⟩=some (I L a0_3)∧w'.cell? ⟨Ka,4,none⟩=some (I L a0_4)∧w'.cell? ⟨Ka,5,none⟩=some (I L a0_5)) (ds:=[]) (bz 31 0) (by kernel_rfl) rfl (by kernel_rfl) (be6_ Ja.out) (fun hHeld=>?_);refine with_tabW spec_PrefixOk.tab1 spec_PrefixOk.bits1 (fun HT_ HW_=>?_);generalize w19.drew=w20 at Ja HB hHeld ⊢;refine tb_ 0 rfl rfl hHeld Z8 ?_;refine oa_ 1 4 31 3 HT_ (fun K hK=>?_);refine goes_ Try.func41 (by kernel_rfl) rfl #[.agg #[I L a0_0,I L a0_1,I L a0_2,I L a0_3,I L a0_4,I L a0_5]] (by rfl) rfl rfl Z6 ?_;with_reducible refine (spec_l03Any.calls a0_0 a0_1 a0_2 a0_3 a0_4 a0_5 false _ A2.out).mono ?_
     rintro e w21 ⟨rfl, hb⟩; refine ⟨_, rfl, ?_⟩
     have n_ := an_ (blk_below (pk_ Ja.out) hb) <| D (below_step (pB_ HB.out) hb)
     clear Ja HB;obtain ⟨Ja,HB⟩:=n_;refine hK.out _ _ (be6_ Ja.out) (fun hHeld=>?_);clear hK K;refine nx_ (N:=some 4) ?_;refine pb_ 2 ?_;refine pb_ 3 ?_;refine tb_ 4 rfl rfl hHeld Z8 ?_;refine oa_ 5 8 31 63 HT_ (fun K hK=>?_);refine goes_ Try.func42 (by kernel_rfl) rfl #[.agg #[I L a0_0,I L a0_1,I L a0_2,I L a0_3,I L a0_4]] (by rfl) rfl rfl Z6 ?_;with_reducible refine (spec_AddrOk.calls a0_0 a0_1 a0_2 a0_3 a0_4 true _ A7.out).mono ?_
     rintro e w22 ⟨rfl, hb⟩; refine ⟨_, rfl, ?_⟩
     have n_ := an_ (blk_below (pk_ Ja.out) hb) <| D (below_step (pB_ HB.out) hb)
     clear Ja HB;obtain ⟨Ja,HB⟩:=n_;refine hK.out _ _ (be6_ Ja.out) (fun hHeld=>?_);clear hK K;refine nx_ (N:=some 8) ?_;refine pb_ 6 ?_;refine pb_ 7 ?_;refine tb_ 8 rfl rfl hHeld Z8 ?_;refine pb_ 9 ?_;refine pb_ 10 ?_;refine pb_ 11 ?_;refine pb_ 12 ?_;refine pb_ 14 ?_;refine tb_ 13 rfl rfl hHeld Z8 ?_;refine tb_ 15 rfl rfl hHeld Z8 ?_;refine oa_ 16 19 31 131071 HT_ (fun K hK=>?_);refine goes_ Try.func43 (by kernel_rfl) rfl #[.agg #[I L a0_0,I L a0_1,I L a0_2,I L a0_3,I L a0_4]] (by rfl) rfl rfl Z6 ?_;with_reducible refine (spec_l03Bits.calls a0_0 a0_1 a0_2 a0_3 a0_4 Ma _ A10.out).mono ?_
     rintro e w23 ⟨rfl, hb⟩; refine ⟨_, rfl, ?_⟩
     have n_ := an_ (blk_below (pk_ Ja.out) hb) <| D (below_step (pB_ HB.out) hb)
     clear Ja HB;obtain ⟨Ja,HB⟩:=n_;refine hK.out _ _ (be6_ Ja.out) (fun hHeld=>?_);clear hK K;refine nx_ (N:=some 19) ?_;refine pb_ 17 ?_;refine pb_ 18 ?_;refine pb_ 19 ?_;refine ob_ 20 ?_;refine ob_ 21 ?_;refine ob_ 22 ?_;refine ob_ 23 ?_;refine ob_ 24 ?_;refine ob_ 25 ?_;refine ob_ 26 ?_;refine ob_ 27 ?_;refine pb_ 28 ?_;refine pb_ 29 ?_;refine pb_ 30 ?_;refine done_ (done_of HT_.out (by kernel_rfl)) ?_
     try go_wp2
     go_ret; exact ⟨er_, pB_ HB.out⟩
   ·rw [if_neg c9] at H
    have c9b0 : decide (0 ≤ a0_5) = false := decide_eq_false c9; clear c9; obtain rfl := Option.some.inj H; go_enter Try.func27, Try.ntmps27
    try go_wp2_with (first|((with_reducible refine gate_dst (N:=1) rfl ?_);refine bx_ (N:=1) (cs:=#[I L a0_0,I L a0_1,I L a0_2,I L a0_3,I L a0_4,I L a0_5]) (t:=37) ?_;intro Ka hg w24 hbox hb;have n_:=an_ (below_step (pB_ HB.out) hb)<|an_ (hbox)<|an_ (bg_ hg (pB_ HB.out):w.heap.size≤Ka)<|D (bg_ hg (pB_ HB.out):w.heap.size≤Ka);clear HB;obtain ⟨HB,Ja,Oa,Ua⟩:=n_;clear hb hbox hg))
    have n_ := an_ (blk_drew Ja.out) <| D (below_drew1 HB.out)
    clear Ja HB;obtain ⟨Ja,HB⟩:=n_;refine start_ (n:=31) (S:=fun w'=>w'.cell? ⟨Ka,0,none⟩=some (I L a0_0)∧w'.cell? ⟨Ka,1,none⟩=some (I L a0_1)∧w'.cell? ⟨Ka,2,none⟩=some (I L a0_2)∧w'.cell? ⟨Ka,3,none⟩=some (I L a0_3)∧w'.cell? ⟨Ka,4,none⟩=some (I L a0_4)∧w'.cell? ⟨Ka,5,none⟩=some (I L a0_5)) (ds:=[]) (bz 31 0) (by kernel_rfl) rfl (by kernel_rfl) (be6_ Ja.out) (fun hHeld=>?_);refine with_tabW spec_PrefixOk.tab1 spec_PrefixOk.bits1 (fun HT_ HW_=>?_);generalize w24.drew=w25 at Ja HB hHeld ⊢;refine tb_ 0 rfl rfl hHeld Z8 ?_;refine oa_ 1 4 31 3 HT_ (fun K hK=>?_);refine goes_ Try.func41 (by kernel_rfl) rfl #[.agg #[I L a0_0,I L a0_1,I L a0_2,I L a0_3,I L a0_4,I L a0_5]] (by rfl) rfl rfl Z6 ?_;with_reducible refine (spec_l03Any.calls a0_0 a0_1 a0_2 a0_3 a0_4 a0_5 false _ A2.out).mono ?_
    rintro e w26 ⟨rfl, hb⟩; refine ⟨_, rfl, ?_⟩
    have n_ := an_ (blk_below (pk_ Ja.out) hb) <| D (below_step (pB_ HB.out) hb)
    clear Ja HB;obtain ⟨Ja,HB⟩:=n_;refine hK.out _ _ (be6_ Ja.out) (fun hHeld=>?_);clear hK K;refine nx_ (N:=some 4) ?_;refine pb_ 2 ?_;refine pb_ 3 ?_;refine tb_ 4 rfl rfl hHeld Z8 ?_;refine oa_ 5 8 31 63 HT_ (fun K hK=>?_);refine goes_ Try.func42 (by kernel_rfl) rfl #[.agg #[I L a0_0,I L a0_1,I L a0_2,I L a0_3,I L a0_4]] (by rfl) rfl rfl Z6 ?_;with_reducible refine (spec_AddrOk.calls a0_0 a0_1 a0_2 a0_3 a0_4 true _ A7.out).mono ?_
    rintro e w27 ⟨rfl, hb⟩; refine ⟨_, rfl, ?_⟩
    have n_ := an_ (blk_below (pk_ Ja.out) hb) <| D (below_step (pB_ HB.out) hb)
    clear Ja HB;obtain ⟨Ja,HB⟩:=n_;refine hK.out _ _ (be6_ Ja.out) (fun hHeld=>?_);clear hK K;refine nx_ (N:=some 8) ?_;refine pb_ 6 ?_;refine pb_ 7 ?_;refine tb_ 8 rfl rfl hHeld Z8 ?_;refine pb_ 9 ?_;refine pb_ 10 ?_;refine pb_ 11 ?_;refine ob_ 12 ?_;refine ob_ 13 ?_;refine ob_ 14 ?_;refine ob_ 15 ?_;refine ob_ 16 ?_;refine ob_ 17 ?_;refine pb_ 18 ?_;refine pb_ 19 ?_;refine ob_ 20 ?_;refine ob_ 21 ?_;refine ob_ 22 ?_;refine ob_ 23 ?_;refine ob_ 24 ?_;refine ob_ 25 ?_;refine ob_ 26 ?_;refine ob_ 27 ?_;refine pb_ 28 ?_;refine pb_ 29 ?_;refine pb_ 30 ?_;refine done_ (done_of HT_.out (by kernel_rfl)) ?_
    try go_wp2
    go_ret; exact ⟨er_, pB_ HB.out⟩
  ·replace c8 := Bool.eq_false_iff.mpr c8
   subst c8; rw [if_neg (show ¬ (false = true) by decide)] at H; obtain rfl := Option.some.inj H; go_enter Try.func27, Try.ntmps27
   try go_wp2_with (first|((with_reducible refine gate_dst (N:=1) rfl ?_);refine bx_ (N:=1) (cs:=#[I L a0_0,I L a0_1,I L a0_2,I L a0_3,I L a0_4,I L a0_5]) (t:=37) ?_;intro Ka hg w28 hbox hb;have n_:=an_ (below_step (pB_ HB.out) hb)<|an_ (hbox)<|an_ (bg_ hg (pB_ HB.out):w.heap.size≤Ka)<|D (bg_ hg (pB_ HB.out):w.heap.size≤Ka);clear HB;obtain ⟨HB,Ja,Oa,Ua⟩:=n_;clear hb hbox hg))
   have n_ := an_ (blk_drew Ja.out) <| D (below_drew1 HB.out)
   clear Ja HB;obtain ⟨Ja,HB⟩:=n_;refine start_ (n:=31) (S:=fun w'=>w'.cell? ⟨Ka,0,none⟩=some (I L a0_0)∧w'.cell? ⟨Ka,1,none⟩=some (I L a0_1)∧w'.cell? ⟨Ka,2,none⟩=some (I L a0_2)∧w'.cell? ⟨Ka,3,none⟩=some (I L a0_3)∧w'.cell? ⟨Ka,4,none⟩=some (I L a0_4)∧w'.cell? ⟨Ka,5,none⟩=some (I L a0_5)) (ds:=[]) (bz 31 0) (by kernel_rfl) rfl (by kernel_rfl) (be6_ Ja.out) (fun hHeld=>?_);refine with_tabW spec_PrefixOk.tab1 spec_PrefixOk.bits1 (fun HT_ HW_=>?_);generalize w28.drew=w29 at Ja HB hHeld ⊢;refine tb_ 0 rfl rfl hHeld Z8 ?_;refine oa_ 1 4 31 3 HT_ (fun K hK=>?_);refine goes_ Try.func41 (by kernel_rfl) rfl #[.agg #[I L a0_0,I L a0_1,I L a0_2,I L a0_3,I L a0_4,I L a0_5]] (by rfl) rfl rfl Z6 ?_;with_reducible refine (spec_l03Any.calls a0_0 a0_1 a0_2 a0_3 a0_4 a0_5 false _ A2.out).mono ?_
   rintro e w30 ⟨rfl, hb⟩; refine ⟨_, rfl, ?_⟩
   have n_ := an_ (blk_below (pk_ Ja.out) hb) <| D (below_step (pB_ HB.out) hb)
   clear Ja HB;obtain ⟨Ja,HB⟩:=n_;refine hK.out _ _ (be6_ Ja.out) (fun hHeld=>?_);clear hK K;refine nx_ (N:=some 4) ?_;refine pb_ 2 ?_;refine pb_ 3 ?_;refine tb_ 4 rfl rfl hHeld Z8 ?_;refine oa_ 5 8 31 63 HT_ (fun K hK=>?_);refine goes_ Try.func42 (by kernel_rfl) rfl #[.agg #[I L a0_0,I L a0_1,I L a0_2,I L a0_3,I L a0_4]] (by rfl) rfl rfl Z6 ?_;with_reducible refine (spec_AddrOk.calls a0_0 a0_1 a0_2 a0_3 a0_4 false _ A7.out).mono ?_
   rintro e w31 ⟨rfl, hb⟩; refine ⟨_, rfl, ?_⟩
   have n_ := an_ (blk_below (pk_ Ja.out) hb) <| D (below_step (pB_ HB.out) hb)
   clear Ja HB;obtain ⟨Ja,HB⟩:=n_;refine hK.out _ _ (be6_ Ja.out) (fun hHeld=>?_);clear hK K;refine nx_ (N:=some 8) ?_;refine pb_ 6 ?_;refine ob_ 7 ?_;refine ob_ 8 ?_;refine ob_ 9 ?_;refine pb_ 10 ?_;refine pb_ 11 ?_;refine ob_ 12 ?_;refine ob_ 13 ?_;refine ob_ 14 ?_;refine ob_ 15 ?_;refine ob_ 16 ?_;refine ob_ 17 ?_;refine pb_ 18 ?_;refine pb_ 19 ?_;refine ob_ 20 ?_;refine ob_ 21 ?_;refine ob_ 22 ?_;refine ob_ 23 ?_;refine ob_ 24 ?_;refine ob_ 25 ?_;refine ob_ 26 ?_;refine ob_ 27 ?_;refine pb_ 28 ?_;refine pb_ 29 ?_;refine pb_ 30 ?_;refine done_ (done_of HT_.out (by kernel_rfl)) ?_
   try go_wp2
   go_ret; exact ⟨er_, pB_ HB.out⟩

/-! ### spec_l09Range: function 28 -/
def spec_l09Range.f (a0 a1 : Int) : Option (Bool) := if 0 ≤ a0 then (if a0 ≤ a1 then (some (decide (a1 ≤ 65535))) else (some false)) else (some false)
set_option maxHeartbeats 8000000 in
set_option maxRecDepth 100000 in
theorem spec_l09Range.calls (a0 a1 : Int) (r : Bool) (w : World) (h : spec_l09Range.f a0 a1 = some r) :
  Calls Try.prog 28 #[I L a0, I L a1] w fun e w' => e = .returned (.bool r) ∧ Drawn0 w w' := by
 have H : (if 0 ≤ a0 then (if a0 ≤ a1 then (some (decide (a1 ≤ 65535))) else (some false)) else (some false)) = some r := h
 clear h
 by_cases c3 : 0 ≤ a0
 ·rw [if_pos c3] at H
  have c3b0 : decide (0 ≤ a0) = true := decide_eq_true c3; clear c3
  by_cases c4 : a0 ≤ a1
  ·rw [if_pos c4] at H
   have c4b0 : decide (a0 ≤ a1) = true := decide_eq_true c4; clear c4; obtain rfl := Option.some.inj H; go_enter Try.func28, Try.ntmps28
   go_wp2
   go_ret; exact ⟨by first | rfl | (simp; done) | (simp [*]; done), by repeat (first | exact Drawn0.refl _ | apply Drawn0.step)⟩
  ·rw [if_neg c4] at H
   have c4b0 : decide (a0 ≤ a1) = false := decide_eq_false c4; clear c4; obtain rfl := Option.some.inj H; go_enter Try.func28, Try.ntmps28
   go_wp2
   go_ret; exact ⟨by first | rfl | (simp; done) | (simp [*]; done), by repeat (first | exact Drawn0.refl _ | apply Drawn0.step)⟩
 ·rw [if_neg c3] at H
  have c3b0 : decide (0 ≤ a0) = false := decide_eq_false c3; clear c3; obtain rfl := Option.some.inj H; go_enter Try.func28, Try.ntmps28
  go_wp2
  go_ret; exact ⟨by first | rfl | (simp; done) | (simp [*]; done), by repeat (first | exact Drawn0.refl _ | apply Drawn0.step)⟩

end Go.Proofs.Ytjhgkonacdimfab.PFnExactCmdOk
