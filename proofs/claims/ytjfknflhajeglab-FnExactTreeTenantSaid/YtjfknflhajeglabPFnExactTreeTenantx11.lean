-- by a program of this session's, over the kit's words
import Derived.Test.YtjfknflhajeglabPZFnExactTreeTenant
import Derived.Test.YtjfknflhajeglabPFnExactTreeTenantx0
import Derived.Test.YtjfknflhajeglabPFnExactTreeTenantx10
namespace Go.Proofs.Ytjfknflhajeglab.PFnExactTreeTenant
open Go.RowKit Go.Proofs.YtjfknflhajeglabW.PrintWords Go.Proofs.YtjfknflhajeglabW.PrintLast Go.Proofs.YtjfknflhajeglabW.PrintMore Go.Proofs.YtjfknflhajeglabV Go.Proofs.Ytjfknflhajeglab.ZFnExactTreeTenant
open Go.Value renaming int → I, slice → Y
open Go.IntKind renaming i64 → L
open Aside0 renaming mk → D
open Option renaming bind_eq_some_iff → bs_
attribute [local go_sem] max2_int min2_int max_two min_two max_three min_three max_four min_four   -- for this text's walks alone
set_option linter.unusedVariables false
set_option linter.unusedSimpArgs false

/-! ### impl_Fair_kidOk: function 64 -/
def impl_Fair_kidOk.f (a0_0 a0_1 a0_2 a0_3 : Int) (l0_4 : List (S51)) (a1_0 a1_1 : Int) (a1_2 : Bool) (a1_3 a1_4 a1_5 : Int) : Option (Bool) := (impl_VecTop.f a0_1 a0_2 a0_3).bind fun t359 => ((impl_VecTop.f a1_3 a1_4 a1_5).bind fun t360 => ((impl_isFlow.f a1_0).bind fun t361 => (if t361 = true then ((impl_isWeight.f a1_1).bind fun t362 => (if t362 = true then ((impl_Narrow.f a1_3 a1_4 a1_5 a0_0).bind fun t363 => (if t363 = true then ((impl_Stride.f a1_1).bind fun t364 => (if t360 ≤ (wrap64 (t359 + (wrap64 (t364 * 2000)))) then (if a1_2 = true then (some (decide (t360 ≥ t359))) else (some true)) else (some false))) else (some false))) else (some false))) else (some false))))
def impl_Fair_kidOk.T1 : Bool × List (List Nat × List Nat) := (true, [([], []), ([0], [0]), ([1], [1]), ([], []), ([3], [3]), ([4, 2], [4]), ([2, 5, 0, 1, 2], [2]), ([5, 6, 0, 1, 2, 3, 4, 5, 6], [5])])
def impl_Fair_kidOk.B1 : List Nat := [0, 1, 3, 0, 8, 31, 63, 127]
theorem impl_Fair_kidOk.tab1 : rtab .any (opsOf Try.f64 1) = impl_Fair_kidOk.T1 := by kernel_rfl
theorem impl_Fair_kidOk.bits1 : waitsOk impl_Fair_kidOk.T1.2 impl_Fair_kidOk.B1 = true := by kernel_rfl
set_option maxHeartbeats 8000000 in
set_option maxRecDepth 100000 in
theorem impl_Fair_kidOk.calls (a0_0 a0_1 a0_2 a0_3 : Int) (A0_4 : Option Addr) (c0_4 : Nat) (l0_4 : List (S51)) (a1_0 a1_1 : Int) (a1_2 : Bool) (a1_3 a1_4 a1_5 : Int) (r : Bool) (w : World) (hr0_4 : Kd.C k51 w A0_4 l0_4.length l0_4) (hc0_4 : l0_4.length ≤ c0_4) (h : impl_Fair_kidOk.f a0_0 a0_1 a0_2 a0_3 l0_4 a1_0 a1_1 a1_2 a1_3 a1_4 a1_5 = some r) :
  Calls Try.prog 64 #[.agg #[I L a0_0,I L a0_1,I L a0_2,I L a0_3,Y A0_4 l0_4.length c0_4],.agg #[I L a1_0,I L a1_1,.bool a1_2,I L a1_3,I L a1_4,I L a1_5]] w fun e w'=>e=.returned (.bool r)∧Below w.heap.size w w':=by
 have hu34 := Try.underlying34
 have hu51 := Try.underlying51
 have hu31 := Try.underlying31
 have HR0_4 := D hr0_4
 have HC0_4 := D hc0_4
 clear hr0_4 hc0_4
 have HB := D (Below.refl w.heap.size w)
 have H:((impl_VecTop.f a0_1 a0_2 a0_3).bind fun Ua=>((impl_VecTop.f a1_3 a1_4 a1_5).bind fun Xa=>((impl_isFlow.f a1_0).bind fun Ub=>(if Ub=true then ((impl_isWeight.f a1_1).bind fun Xb=>(if Xb=true then ((impl_Narrow.f a1_3 a1_4 a1_5 a0_0).bind fun Ob=>(if Ob=true then ((impl_Stride.f a1_1).bind fun Jb=>(if Xa≤(wrap64 (Ua + (wrap64 (Jb * 2000)))) then (if a1_2=true then (some (decide (Xa ≥ Ua))) else (some true)) else (some false))) else (some false))) else (some false))) else (some false)))))=some r:=h
 clear h
 obtain ⟨Ua, A30, H⟩ := bs_.mp H
 (try dsimp only at H)
 have A3 := D A30
 clear A30
 obtain ⟨Xa, A40, H⟩ := bs_.mp H
 (try dsimp only at H)
 have A4 := D A40
 clear A40
 obtain ⟨Ub, A50, H⟩ := bs_.mp H
 (try dsimp only at H)
 have A5 := D A50
 clear A50
 by_cases c6 : Ub = true
 ·subst c6
  rw [if_pos rfl] at H; obtain ⟨Xb, A70, H⟩ := bs_.mp H; (try dsimp only at H); have A7 := D A70; clear A70
  by_cases c8 : Xb = true
  ·subst c8
   rw [if_pos rfl] at H;obtain ⟨Ob,A90,H⟩:=bs_.mp H;(try dsimp only at H);have A9:=D A90;clear A90;have HU10:=D H;clear H;go_enter Try.func64,Try.ntmps64
   try go_wp2_with (first|((with_reducible refine gate_dst (N:=2) rfl ?_);refine bx_ (N:=2) (cs:=#[I L a0_0,I L a0_1,I L a0_2,I L a0_3,Y A0_4 l0_4.length c0_4]) (t:=34) ?_;intro Ma hg w11 hbox hb;have n_:=an_ (below_step (pB_ HB.out) hb)<|an_ (hbox)<|an_ (bg_ hg (pB_ HB.out):w.heap.size≤Ma)<|D (bg_ hg (pB_ HB.out):w.heap.size≤Ma);clear HB;obtain ⟨HB,Ja,Jc,Kc⟩:=n_;clear hb hbox hg)|((with_reducible refine gate_dst (N:=3) rfl ?_);refine bx_ (N:=3) (cs:=#[I L a1_0,I L a1_1,.bool a1_2,I L a1_3,I L a1_4,I L a1_5]) (t:=51) ?_;intro Oa hg w12 hbox hb;have n_:=an_ (blk_below (pk_ Ja.out) hb)<|an_ (below_step (pB_ HB.out) hb)<|an_ (hbox)<|an_ (bg_ hg (pB_ HB.out):w.heap.size≤Oa)<|an_ (bg_ hg (pB_ HB.out):w.heap.size≤Oa)<|an_ (nl_ hg (pk_ Ja.out):Ma≠Oa)<|D (by rw [hg];exact Nat.ne_of_gt (blk_lt (pk_ Ja.out)):Oa≠Ma);clear Ja HB;obtain ⟨Ja,HB,Ka,Mc,Oc,Kb,Mb⟩:=n_;clear hb hbox hg))
   have n_ := an_ (blk_drew Ja.out) <| an_ (blk_drew Ka.out) <| D (below_drew1 HB.out)
   clear Ja Ka HB;obtain ⟨Ja,Ka,HB⟩:=n_;refine start_ (n:=8) (S:=fun w'=>w'.cell? ⟨Ma,0,none⟩=some (I L a0_0)∧w'.cell? ⟨Ma,1,none⟩=some (I L a0_1)∧w'.cell? ⟨Ma,2,none⟩=some (I L a0_2)∧w'.cell? ⟨Ma,3,none⟩=some (I L a0_3)∧w'.cell? ⟨Ma,4,none⟩=some (Y A0_4 l0_4.length c0_4)∧w'.cell? ⟨Oa,0,none⟩=some (I L a1_0)∧w'.cell? ⟨Oa,1,none⟩=some (I L a1_1)∧w'.cell? ⟨Oa,2,none⟩=some (.bool a1_2)∧w'.cell? ⟨Oa,3,none⟩=some (I L a1_3)∧w'.cell? ⟨Oa,4,none⟩=some (I L a1_4)∧w'.cell? ⟨Oa,5,none⟩=some (I L a1_5)) (ds:=[]) (bz 8 0) (by kernel_rfl) rfl (by kernel_rfl) (bk5_ Ja.out (be6_ Ka.out)) (fun hHeld=>?_);refine with_tabW impl_Fair_kidOk.tab1 impl_Fair_kidOk.bits1 (fun HT_ HW_=>?_);generalize w12.drew=w13 at Ja Ka HB hHeld ⊢;refine pb_ 0 ?_;refine pb_ 3 ?_;refine tb_ 1 rfl rfl hHeld Z48 ?_;refine tb_ 4 rfl rfl hHeld Z48 ?_;refine oa_ 2 9 8 31 HT_ (fun K hK=>?_);refine goes_ Try.func63 (by kernel_rfl) rfl #[.agg #[I L a0_1,I L a0_2,I L a0_3]] (by rfl) rfl rfl Z21 ?_;with_reducible refine (impl_VecTop.calls a0_1 a0_2 a0_3 Ua _ A3.out).mono ?_
   rintro e w14 ⟨rfl, hb⟩; refine ⟨_, rfl, ?_⟩
   have n_ := an_ (blk_below (pk_ Ja.out) hb) <| an_ (blk_below (pk_ Ka.out) hb) <| D (below_step (pB_ HB.out) hb)
   clear Ja Ka HB;obtain ⟨Ja,Ka,HB⟩:=n_;refine hK.out _ _ (bk5_ Ja.out (be6_ Ka.out)) (fun hHeld=>?_);clear hK K;refine nx_ (N:=some 9) ?_;refine oa_ 5 12 8 63 HT_ (fun K hK=>?_);refine goes_ Try.func63 (by kernel_rfl) rfl #[.agg #[I L a1_3,I L a1_4,I L a1_5]] (by rfl) rfl rfl Z21 ?_;with_reducible refine (impl_VecTop.calls a1_3 a1_4 a1_5 Xa _ A4.out).mono ?_
   rintro e w15 ⟨rfl, hb⟩; refine ⟨_, rfl, ?_⟩
   have n_ := an_ (blk_below (pk_ Ja.out) hb) <| an_ (blk_below (pk_ Ka.out) hb) <| D (below_step (pB_ HB.out) hb)
   clear Ja Ka HB;obtain ⟨Ja,Ka,HB⟩:=n_;refine hK.out _ _ (bk5_ Ja.out (be6_ Ka.out)) (fun hHeld=>?_);clear hK K;refine nx_ (N:=some 12) ?_;refine pb_ 6 ?_;refine pb_ 7 ?_;refine done_ (done_of HT_.out (by kernel_rfl)) ?_;(try have:=Mb.out);(try have:=Kb.out);have Uc:=cells6 Ka.out
   go_upto_if 30 with (first|((with_reducible refine gate_callee (f:=45) rfl ?_);refine goesL_ (some 15) rfl rfl Try.func45 (by kernel_rfl) rfl #[I L a1_0] rfl Z21 ?_;(with_reducible refine (impl_isFlow.calls a1_0 true _ A5.out).mono ?_);rintro e w' ⟨rfl,⟨nd,rfl⟩⟩;refine ⟨_,rfl,?_⟩)|(go_at_call 46;(with_reducible refine (impl_isWeight.calls a1_1 true _ A7.out).mono ?_);rintro e w' ⟨rfl,⟨nd,rfl⟩⟩;have Xe:=cells5 Ja.out)|(go_at_call 62;(with_reducible refine (impl_Narrow.calls a1_3 a1_4 a1_5 a0_0 Ob _ A9.out).mono ?_);rintro e w19 ⟨rfl,hb⟩;have n_:=an_ (blk_below (pk_ Ja.out) hb)<|an_ (blk_below (pk_ Ka.out) hb)<|D (below_step (pB_ HB.out) hb);clear Ja Ka HB;obtain ⟨Ja,Ka,HB⟩:=n_;(try clear hb)))
   have H := HU10.out; clear HU10
   by_cases c20 : Ob = true
   ·subst c20
    rw [if_pos rfl] at H; obtain ⟨Jb, A210, H⟩ := bs_.mp H; (try dsimp only at H); have A21 := D A210; clear A210
    by_cases c22 : Xa ≤ (wrap64 (Ua + (wrap64 (Jb * 2000))))
    ·rw [if_pos c22] at H
     have c22b0:decide (Xa≤(wrap64 (Ua + (wrap64 (Jb * 2000)))))=true:=decide_eq_true c22;clear c22;refine rw_ c22b0 ?_
     by_cases c23 : a1_2 = true
     ·subst c23
      rw [if_pos rfl] at H; obtain rfl := Option.some.inj H; (try have hnb24 := Mb.out); (try have hnc24 := Kb.out); obtain ⟨Og, Ug, Xg, Jh, Kh, Mh, Oh, Uh, Xh, Ji, Ki, Mi⟩ := cells6 Ka.out
      go_wp2_with (first|((with_reducible refine gate_callee (f:=75) rfl ?_);refine goesL_ (some 35) rfl rfl Try.func75 (by kernel_rfl) rfl #[I L a1_1] rfl Z21 ?_;(with_reducible refine (impl_Stride.calls a1_1 Jb _ A21.out).mono ?_);rintro e w' ⟨rfl,⟨nd,rfl⟩⟩;refine ⟨_,rfl,?_⟩))
      go_ret; exact ⟨er_, pB_ HB.out⟩
     ·replace c23 := Bool.eq_false_iff.mpr c23
      subst c23;rw [if_neg (show ¬ (false=true) by decide)] at H;obtain rfl:=Option.some.inj H;(try have:=Mb.out);(try have:=Kb.out);have Oi:=cells6 Ka.out
      go_wp2_with (first|((with_reducible refine gate_callee (f:=75) rfl ?_);refine goesL_ (some 35) rfl rfl Try.func75 (by kernel_rfl) rfl #[I L a1_1] rfl Z21 ?_;(with_reducible refine (impl_Stride.calls a1_1 Jb _ A21.out).mono ?_);rintro e w' ⟨rfl,⟨nd,rfl⟩⟩;refine ⟨_,rfl,?_⟩))
      go_ret; exact ⟨er_, pB_ HB.out⟩
    ·rw [if_neg c22] at H
     have c22b0:decide (Xa≤(wrap64 (Ua + (wrap64 (Jb * 2000)))))=false:=decide_eq_false c22;clear c22;refine rw_ c22b0 ?_;obtain rfl:=Option.some.inj H;(try have:=Mb.out);(try have:=Kb.out);have Ok:=cells6 Ka.out
     go_wp2_with (first|((with_reducible refine gate_callee (f:=75) rfl ?_);refine goesL_ (some 35) rfl rfl Try.func75 (by kernel_rfl) rfl #[I L a1_1] rfl Z21 ?_;(with_reducible refine (impl_Stride.calls a1_1 Jb _ A21.out).mono ?_);rintro e w' ⟨rfl,⟨nd,rfl⟩⟩;refine ⟨_,rfl,?_⟩))
     go_ret; exact ⟨er_, pB_ HB.out⟩
   ·replace c20 := Bool.eq_false_iff.mpr c20
    subst c20; rw [if_neg (show ¬ (false = true) by decide)] at H; obtain rfl := Option.some.inj H
    go_wp2
    go_ret; exact ⟨er_, pB_ HB.out⟩
  ·replace c8 := Bool.eq_false_iff.mpr c8
   subst c8; rw [if_neg (show ¬ (false = true) by decide)] at H; obtain rfl := Option.some.inj H; go_enter Try.func64, Try.ntmps64
   try go_wp2_with (first|((with_reducible refine gate_dst (N:=2) rfl ?_);refine bx_ (N:=2) (cs:=#[I L a0_0,I L a0_1,I L a0_2,I L a0_3,Y A0_4 l0_4.length c0_4]) (t:=34) ?_;intro Ma hg w30 hbox hb;have n_:=an_ (below_step (pB_ HB.out) hb)<|an_ (hbox)<|an_ (bg_ hg (pB_ HB.out):w.heap.size≤Ma)<|D (bg_ hg (pB_ HB.out):w.heap.size≤Ma);clear HB;obtain ⟨HB,Ja,Jc,Kc⟩:=n_;clear hb hbox hg)|((with_reducible refine gate_dst (N:=3) rfl ?_);refine bx_ (N:=3) (cs:=#[I L a1_0,I L a1_1,.bool a1_2,I L a1_3,I L a1_4,I L a1_5]) (t:=51) ?_;intro Oa hg w31 hbox hb;have n_:=an_ (blk_below (pk_ Ja.out) hb)<|an_ (below_step (pB_ HB.out) hb)<|an_ (hbox)<|an_ (bg_ hg (pB_ HB.out):w.heap.size≤Oa)<|an_ (bg_ hg (pB_ HB.out):w.heap.size≤Oa)<|an_ (nl_ hg (pk_ Ja.out):Ma≠Oa)<|D (by rw [hg];exact Nat.ne_of_gt (blk_lt (pk_ Ja.out)):Oa≠Ma);clear Ja HB;obtain ⟨Ja,HB,Ka,Mc,Oc,Kb,Mb⟩:=n_;clear hb hbox hg))
   have n_ := an_ (blk_drew Ja.out) <| an_ (blk_drew Ka.out) <| D (below_drew1 HB.out)
   clear Ja Ka HB;obtain ⟨Ja,Ka,HB⟩:=n_;refine start_ (n:=8) (S:=fun w'=>w'.cell? ⟨Ma,0,none⟩=some (I L a0_0)∧w'.cell? ⟨Ma,1,none⟩=some (I L a0_1)∧w'.cell? ⟨Ma,2,none⟩=some (I L a0_2)∧w'.cell? ⟨Ma,3,none⟩=some (I L a0_3)∧w'.cell? ⟨Ma,4,none⟩=some (Y A0_4 l0_4.length c0_4)∧w'.cell? ⟨Oa,0,none⟩=some (I L a1_0)∧w'.cell? ⟨Oa,1,none⟩=some (I L a1_1)∧w'.cell? ⟨Oa,2,none⟩=some (.bool a1_2)∧w'.cell? ⟨Oa,3,none⟩=some (I L a1_3)∧w'.cell? ⟨Oa,4,none⟩=some (I L a1_4)∧w'.cell? ⟨Oa,5,none⟩=some (I L a1_5)) (ds:=[]) (bz 8 0) (by kernel_rfl) rfl (by kernel_rfl) (bk5_ Ja.out (be6_ Ka.out)) (fun hHeld=>?_);refine with_tabW impl_Fair_kidOk.tab1 impl_Fair_kidOk.bits1 (fun HT_ HW_=>?_);generalize w31.drew=w32 at Ja Ka HB hHeld ⊢;refine pb_ 0 ?_;refine pb_ 3 ?_;refine tb_ 1 rfl rfl hHeld Z48 ?_;refine tb_ 4 rfl rfl hHeld Z48 ?_;refine oa_ 2 9 8 31 HT_ (fun K hK=>?_);refine goes_ Try.func63 (by kernel_rfl) rfl #[.agg #[I L a0_1,I L a0_2,I L a0_3]] (by rfl) rfl rfl Z21 ?_;with_reducible refine (impl_VecTop.calls a0_1 a0_2 a0_3 Ua _ A3.out).mono ?_
   rintro e w33 ⟨rfl, hb⟩; refine ⟨_, rfl, ?_⟩
   have n_ := an_ (blk_below (pk_ Ja.out) hb) <| an_ (blk_below (pk_ Ka.out) hb) <| D (below_step (pB_ HB.out) hb)
   clear Ja Ka HB;obtain ⟨Ja,Ka,HB⟩:=n_;refine hK.out _ _ (bk5_ Ja.out (be6_ Ka.out)) (fun hHeld=>?_);clear hK K;refine nx_ (N:=some 9) ?_;refine oa_ 5 12 8 63 HT_ (fun K hK=>?_);refine goes_ Try.func63 (by kernel_rfl) rfl #[.agg #[I L a1_3,I L a1_4,I L a1_5]] (by rfl) rfl rfl Z21 ?_;with_reducible refine (impl_VecTop.calls a1_3 a1_4 a1_5 Xa _ A4.out).mono ?_
   rintro e w34 ⟨rfl, hb⟩; refine ⟨_, rfl, ?_⟩
   have n_ := an_ (blk_below (pk_ Ja.out) hb) <| an_ (blk_below (pk_ Ka.out) hb) <| D (below_step (pB_ HB.out) hb)
   clear Ja Ka HB;obtain ⟨Ja,Ka,HB⟩:=n_;refine hK.out _ _ (bk5_ Ja.out (be6_ Ka.out)) (fun hHeld=>?_);clear hK K;refine nx_ (N:=some 12) ?_;refine pb_ 6 ?_;refine pb_ 7 ?_;refine done_ (done_of HT_.out (by kernel_rfl)) ?_;(try have:=Mb.out);(try have:=Kb.out);have On:=cells6 Ka.out
   try go_wp2_with (first|((with_reducible refine gate_callee (f:=45) rfl ?_);refine goesL_ (some 15) rfl rfl Try.func45 (by kernel_rfl) rfl #[I L a1_0] rfl Z21 ?_;(with_reducible refine (impl_isFlow.calls a1_0 true _ A5.out).mono ?_);rintro e w' ⟨rfl,⟨nd,rfl⟩⟩;refine ⟨_,rfl,?_⟩)|(go_at_call 46;(with_reducible refine (impl_isWeight.calls a1_1 false _ A7.out).mono ?_);rintro e w' ⟨rfl,⟨nd,rfl⟩⟩))
   go_ret; exact ⟨er_, pB_ HB.out⟩
 ·replace c6 := Bool.eq_false_iff.mpr c6
  subst c6; rw [if_neg (show ¬ (false = true) by decide)] at H; obtain rfl := Option.some.inj H; go_enter Try.func64, Try.ntmps64
  try go_wp2_with (first|((with_reducible refine gate_dst (N:=2) rfl ?_);refine bx_ (N:=2) (cs:=#[I L a0_0,I L a0_1,I L a0_2,I L a0_3,Y A0_4 l0_4.length c0_4]) (t:=34) ?_;intro Ma hg w37 hbox hb;have n_:=an_ (below_step (pB_ HB.out) hb)<|an_ (hbox)<|an_ (bg_ hg (pB_ HB.out):w.heap.size≤Ma)<|D (bg_ hg (pB_ HB.out):w.heap.size≤Ma);clear HB;obtain ⟨HB,Ja,Jc,Kc⟩:=n_;clear hb hbox hg)|((with_reducible refine gate_dst (N:=3) rfl ?_);refine bx_ (N:=3) (cs:=#[I L a1_0,I L a1_1,.bool a1_2,I L a1_3,I L a1_4,I L a1_5]) (t:=51) ?_;intro Oa hg w38 hbox hb;have n_:=an_ (blk_below (pk_ Ja.out) hb)<|an_ (below_step (pB_ HB.out) hb)<|an_ (hbox)<|an_ (bg_ hg (pB_ HB.out):w.heap.size≤Oa)<|an_ (bg_ hg (pB_ HB.out):w.heap.size≤Oa)<|an_ (nl_ hg (pk_ Ja.out):Ma≠Oa)<|D (by rw [hg];exact Nat.ne_of_gt (blk_lt (pk_ Ja.out)):Oa≠Ma);clear Ja HB;obtain ⟨Ja,HB,Ka,Mc,Oc,Kb,Mb⟩:=n_;clear hb hbox hg))
  have n_ := an_ (blk_drew Ja.out) <| an_ (blk_drew Ka.out) <| D (below_drew1 HB.out)
  clear Ja Ka HB;obtain ⟨Ja,Ka,HB⟩:=n_;refine start_ (n:=8) (S:=fun w'=>w'.cell? ⟨Ma,0,none⟩=some (I L a0_0)∧w'.cell? ⟨Ma,1,none⟩=some (I L a0_1)∧w'.cell? ⟨Ma,2,none⟩=some (I L a0_2)∧w'.cell? ⟨Ma,3,none⟩=some (I L a0_3)∧w'.cell? ⟨Ma,4,none⟩=some (Y A0_4 l0_4.length c0_4)∧w'.cell? ⟨Oa,0,none⟩=some (I L a1_0)∧w'.cell? ⟨Oa,1,none⟩=some (I L a1_1)∧w'.cell? ⟨Oa,2,none⟩=some (.bool a1_2)∧w'.cell? ⟨Oa,3,none⟩=some (I L a1_3)∧w'.cell? ⟨Oa,4,none⟩=some (I L a1_4)∧w'.cell? ⟨Oa,5,none⟩=some (I L a1_5)) (ds:=[]) (bz 8 0) (by kernel_rfl) rfl (by kernel_rfl) (bk5_ Ja.out (be6_ Ka.out)) (fun hHeld=>?_);refine with_tabW impl_Fair_kidOk.tab1 impl_Fair_kidOk.bits1 (fun HT_ HW_=>?_);generalize w38.drew=w39 at Ja Ka HB hHeld ⊢;refine pb_ 0 ?_;refine pb_ 3 ?_;refine tb_ 1 rfl rfl hHeld Z48 ?_;refine tb_ 4 rfl rfl hHeld Z48 ?_;refine oa_ 2 9 8 31 HT_ (fun K hK=>?_);refine goes_ Try.func63 (by kernel_rfl) rfl #[.agg #[I L a0_1,I L a0_2,I L a0_3]] (by rfl) rfl rfl Z21 ?_;with_reducible refine (impl_VecTop.calls a0_1 a0_2 a0_3 Ua _ A3.out).mono ?_
  rintro e w40 ⟨rfl, hb⟩; refine ⟨_, rfl, ?_⟩
  have n_ := an_ (blk_below (pk_ Ja.out) hb) <| an_ (blk_below (pk_ Ka.out) hb) <| D (below_step (pB_ HB.out) hb)
  clear Ja Ka HB;obtain ⟨Ja,Ka,HB⟩:=n_;refine hK.out _ _ (bk5_ Ja.out (be6_ Ka.out)) (fun hHeld=>?_);clear hK K;refine nx_ (N:=some 9) ?_;refine oa_ 5 12 8 63 HT_ (fun K hK=>?_);refine goes_ Try.func63 (by kernel_rfl) rfl #[.agg #[I L a1_3,I L a1_4,I L a1_5]] (by rfl) rfl rfl Z21 ?_;with_reducible refine (impl_VecTop.calls a1_3 a1_4 a1_5 Xa _ A4.out).mono ?_
  rintro e w41 ⟨rfl, hb⟩; refine ⟨_, rfl, ?_⟩
  have n_ := an_ (blk_below (pk_ Ja.out) hb) <| an_ (blk_below (pk_ Ka.out) hb) <| D (below_step (pB_ HB.out) hb)
  clear Ja Ka HB;obtain ⟨Ja,Ka,HB⟩:=n_;refine hK.out _ _ (bk5_ Ja.out (be6_ Ka.out)) (fun hHeld=>?_);clear hK K;refine nx_ (N:=some 12) ?_;refine pb_ 6 ?_;refine pb_ 7 ?_;refine done_ (done_of HT_.out (by kernel_rfl)) ?_;(try have:=Mb.out);(try have:=Kb.out);have Op:=cells6 Ka.out
  try go_wp2_with (first|((with_reducible refine gate_callee (f:=45) rfl ?_);refine goesL_ (some 15) rfl rfl Try.func45 (by kernel_rfl) rfl #[I L a1_0] rfl Z21 ?_;(with_reducible refine (impl_isFlow.calls a1_0 false _ A5.out).mono ?_);rintro e w' ⟨rfl,⟨nd,rfl⟩⟩;refine ⟨_,rfl,?_⟩))
  go_ret; exact ⟨er_, pB_ HB.out⟩

end Go.Proofs.Ytjfknflhajeglab.PFnExactTreeTenant
