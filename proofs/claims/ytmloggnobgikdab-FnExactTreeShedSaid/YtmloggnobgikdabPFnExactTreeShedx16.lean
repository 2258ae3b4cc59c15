-- by a program of this session's, over the kit's words
import Derived.Test.YtmloggnobgikdabPZFnExactTreeShed
import Derived.Test.YtmloggnobgikdabPFnExactTreeShedx0
import Derived.Test.YtmloggnobgikdabPFnExactTreeShedx1
import Derived.Test.YtmloggnobgikdabPFnExactTreeShedx12
import Derived.Test.YtmloggnobgikdabPFnExactTreeShedx14
import Derived.Test.YtmloggnobgikdabPFnExactTreeShedx15
namespace Go.Proofs.Ytmloggnobgikdab.PFnExactTreeShed
open Go.RowKit Go.Proofs.YtmloggnobgikdabW.PrintWords Go.Proofs.YtmloggnobgikdabW.PrintLast Go.Proofs.YtmloggnobgikdabW.PrintMore Go.Proofs.YtmloggnobgikdabV Go.Proofs.Ytmloggnobgikdab.ZFnExactTreeShed
open Go.Value renaming int → I, slice → Y
open Go.IntKind renaming i64 → L
open Aside0 renaming mk → D
open Option renaming bind_eq_some_iff → bs_
attribute [local go_sem] max2_int min2_int max_two min_two max_three min_three max_four min_four   -- for this text's walks alone
set_option linter.unusedVariables false
set_option linter.unusedSimpArgs false

attribute [local go_sem high] eqA31
/-! ### impl_VecMost_1: function 75 -/
def impl_VecMost_1.f (a0 a1 : Int) : Option (Int) := some (mx a0 a1)
set_option maxHeartbeats 8000000 in
set_option maxRecDepth 100000 in
theorem impl_VecMost_1.calls (a0 a1 r : Int) (w : World) (h : impl_VecMost_1.f a0 a1 = some r) :
  Calls Try.prog 75 #[I L a0, I L a1] w fun e w' => e = .returned (I L r) ∧ Below w.heap.size w w' := by
 have HB := D (Below.refl w.heap.size w)
 have H : (some (mx a0 a1)) = some r := h
 clear h
 obtain ⟨ji3, hji3⟩ : ∃ j_ : Int, (mx a0 a1) = j_ := ⟨_, rfl⟩
 replace H : (some ji3) = some r := by first | (rw [hji3] at H; exact H) | (simp only [hji3] at H ⊢; exact H)
 have hji3_ : (if a0 < a1 then a1 else a0) = ji3 := hji3
 obtain rfl := Option.some.inj H
 go_enter Try.func75, Try.ntmps75
 go_wp2
 go_ret
 exact ⟨by first | rfl | (simp [errW_none, errW_some] <;> rfl) | (simp only [← hji3]; first | rfl | (simp [errW_none, errW_some] <;> rfl)) | (simp [*, errW_none, errW_some] <;> rfl), pB_ HB.out⟩

/-! ### impl_VecMost: function 62 -/
def impl_VecMost.f (a0_0 a0_1 a0_2 a1_0 a1_1 a1_2 : Int) : Option (Int × Int × Int) := (impl_both.f a0_0 a0_1 a0_2 a1_0 a1_1 a1_2 (fun z0_ z1_ => impl_VecMost_1.f z0_ z1_)).bind fun bt441 => (some (bt441.1, bt441.2.1, bt441.2.2))
set_option maxHeartbeats 8000000 in
set_option maxRecDepth 100000 in
theorem impl_VecMost.calls (a0_0 a0_1 a0_2 a1_0 a1_1 a1_2 r1 r2 r3 : Int) (w : World) (h : impl_VecMost.f a0_0 a0_1 a0_2 a1_0 a1_1 a1_2 = some (r1, r2, r3)) :
  Calls Try.prog 62 #[.agg #[I L a0_0,I L a0_1,I L a0_2],.agg #[I L a1_0,I L a1_1,I L a1_2]] w fun e w'=>e=.returned (.agg #[I L r1,I L r2,I L r3])∧Below w.heap.size w w':=by
 have hu31 := Try.underlying31
 have HB := D (Below.refl w.heap.size w)
 have H : ((impl_both.f a0_0 a0_1 a0_2 a1_0 a1_1 a1_2 (fun z0_ z1_ => impl_VecMost_1.f z0_ z1_)).bind fun bt441 => (some (bt441.1, bt441.2.1, bt441.2.2))) = some (r1, r2, r3) := h
 clear h
 obtain ⟨⟨t441, t442, t443⟩, A30, H⟩ := bs_.mp H
 (try dsimp only at H)
 have A3 := D A30
 clear A30
 simp only [Option.some.injEq, Prod.mk.injEq] at H
 obtain ⟨rfl, rfl, rfl⟩ := H
 go_enter Try.func62, Try.ntmps62
 go_wp2_with (first|((with_reducible refine gate_dst (N:=2) rfl ?_);refine bx_ (N:=2) (cs:=#[I L a0_0,I L a0_1,I L a0_2]) (t:=31) ?_;intro gb438 hg w4 hbox hb;have n_:=an_ (below_step (pB_ HB.out) hb)<|an_ (hbox)<|an_ (bg_ hg (pB_ HB.out):w.heap.size≤gb438)<|D (bg_ hg (pB_ HB.out):w.heap.size≤gb438);clear HB;obtain ⟨HB,BK438,GW438,GE438⟩:=n_;clear hb hbox hg)|((with_reducible refine gate_dst (N:=3) rfl ?_);refine bx_ (N:=3) (cs:=#[I L a1_0,I L a1_1,I L a1_2]) (t:=31) ?_;intro gb439 hg w5 hbox hb;have n_:=an_ (blk_below (pk_ BK438.out) hb)<|an_ (below_step (pB_ HB.out) hb)<|an_ (hbox)<|an_ (bg_ hg (pB_ HB.out):w.heap.size≤gb439)<|an_ (bg_ hg (pB_ HB.out):w.heap.size≤gb439)<|an_ (nl_ hg (pk_ BK438.out):gb438≠gb439)<|D (by rw [hg];exact Nat.ne_of_gt (blk_lt (pk_ BK438.out)):gb439≠gb438);clear BK438 HB;obtain ⟨BK438,HB,BK439,GW439,GE439,NB438_439,NB439_438⟩:=n_;clear hb hbox hg)|((with_reducible refine gate_dst (N:=4) rfl ?_);refine bx_ (N:=4) (cs:=#[I L 0,I L 0,I L 0]) (t:=31) ?_;intro gb440 hg w6 hbox hb;have n_:=an_ (blk_below (pk_ BK438.out) hb)<|an_ (blk_below (pk_ BK439.out) hb)<|an_ (below_step (pB_ HB.out) hb)<|an_ (hbox)<|an_ (bg_ hg (pB_ HB.out):w.heap.size≤gb440)<|an_ (bg_ hg (pB_ HB.out):w.heap.size≤gb440)<|an_ (nl_ hg (pk_ BK438.out):gb438≠gb440)<|an_ (ng_ hg (pk_ BK438.out):gb440≠gb438)<|an_ (nl_ hg (pk_ BK439.out):gb439≠gb440)<|D (by rw [hg];exact Nat.ne_of_gt (blk_lt (pk_ BK439.out)):gb440≠gb439);clear BK438 BK439 HB;obtain ⟨BK438,BK439,HB,BK440,GW440,GE440,NB438_440,NB440_438,NB439_440,NB440_439⟩:=n_;clear hb hbox hg;(try have:=NB438_439.out);(try have:=NB439_438.out);(try have:=NB438_440.out);(try have:=NB440_438.out);have hcz9_0:=cells3 BK438.out;(try have:=NB439_440.out);(try have:=NB440_439.out);have hcz11_0:=cells3 BK439.out)|((with_reducible refine gate_callee (f:=74) rfl ?_);refine goesL_ (some 7) rfl rfl Try.func74 (by kernel_rfl) rfl #[.agg #[I L a0_0,I L a0_1,I L a0_2],.agg #[I L a1_0,I L a1_1,I L a1_2],.func (.func 75) #[] #[]] rfl Z14 ?_;(with_reducible refine (impl_both.calls a0_0 a0_1 a0_2 a1_0 a1_1 a1_2 (fun z0_ z1_=>impl_VecMost_1.f z0_ z1_) 75 #[] t441 t442 t443 _ ?side1 ?side2 A3.out).mono ?_);(case side1=>exact ⟨⟨_,Try.func75,by kernel_rfl,rfl⟩⟩);(case side2=>refine ⟨?_⟩;intro a900 a901 rr0_ W_ hW_ h_;refine calls_of_args (args':=#[I L a900,I L a901]) (by simp) ?_;refine (impl_VecMost_1.calls a900 a901  rr0_ W_ h_).mono ?_;rintro e w' ⟨rfl,hd_⟩;exact ⟨rfl,hd_⟩);rintro e w12 ⟨rfl,hb⟩;refine ⟨_,rfl,?_⟩;have n_:=an_ (blk_below (pk_ BK438.out) hb)<|an_ (blk_below (pk_ BK439.out) hb)<|an_ (blk_below (pk_ BK440.out) hb)<|D (below_step (pB_ HB.out) hb);clear BK438 BK439 BK440 HB;obtain ⟨BK438,BK439,BK440,HB⟩:=n_;(try clear hb);have hcz13_0:=cells3 BK440.out))
 refine bodyPost_ret (results_cell_row rfl _ _ gb440 31 #[I L t441,I L t442,I L t443] (0,0) _ rfl (by exact pP_ BK440.out) Try.underlying31 rfl (by kernel_rfl)) rfl ?_
 exact ⟨er_, pB_ HB.out⟩

/-! ### impl_Fair_owes: function 43 -/
def impl_Fair_owes.f (a0_0 a0_1 a0_2 a0_3 : Int) (l0_4 : List (S67)) (a1_0 a1_1 : Int) (a1_2 : Bool) (a1_3 a1_4 a1_5 : Int) : Option (Bool) := if a1_2 = true then (some true) else ((impl_VecMost.f a1_3 a1_4 a1_5 a0_1 a0_2 a0_3).bind fun bt446 => (some (!(bt446.1 == a0_1) || (!(bt446.2.1 == a0_2) || (!(bt446.2.2 == a0_3))))))
def impl_Fair_owes.T1 : Bool × List (List Nat × List Nat) := (true, [([], []), ([0], [0]), ([1], [1]), ([2], [2]), ([3, 2], [2, 3]), ([2], [2]), ([5, 2], [2, 5]), ([4, 6, 2, 2], [2, 4, 6]), ([2], [2]), ([8, 2], [2, 8]), ([7, 9, 2], [2, 7, 9]), ([2, 10], [2, 10]), ([11, 7, 0, 1, 2, 3, 4, 5, 6, 7, 8, 9, 10, 11], [11])])
def impl_Fair_owes.B1 : List Nat := [0, 1, 3, 7, 15, 7, 39, 127, 7, 263, 1023, 2047, 4095]
theorem impl_Fair_owes.tab1 : rtab .any (opsOf Try.f43 1) = impl_Fair_owes.T1 := by kernel_rfl
theorem impl_Fair_owes.bits1 : waitsOk impl_Fair_owes.T1.2 impl_Fair_owes.B1 = true := by kernel_rfl
set_option maxHeartbeats 8000000 in
set_option maxRecDepth 100000 in
theorem impl_Fair_owes.calls (a0_0 a0_1 a0_2 a0_3 : Int) (A0_4 : Option Addr) (c0_4 : Nat) (l0_4 : List (S67)) (a1_0 a1_1 : Int) (a1_2 : Bool) (a1_3 a1_4 a1_5 : Int) (r : Bool) (w : World) (hr0_4 : Kd.C k67 w A0_4 l0_4.length l0_4) (hc0_4 : l0_4.length ≤ c0_4) (h : impl_Fair_owes.f a0_0 a0_1 a0_2 a0_3 l0_4 a1_0 a1_1 a1_2 a1_3 a1_4 a1_5 = some r) :
  Calls Try.prog 43 #[.agg #[I L a0_0,I L a0_1,I L a0_2,I L a0_3,Y A0_4 l0_4.length c0_4],.agg #[I L a1_0,I L a1_1,.bool a1_2,I L a1_3,I L a1_4,I L a1_5]] w fun e w'=>e=.returned (.bool r)∧Below w.heap.size w w':=by
 have hu34 := Try.underlying34
 have hu67 := Try.underlying67
 have hu31 := Try.underlying31
 have HR0_4 := D hr0_4
 have HC0_4 := D hc0_4
 clear hr0_4 hc0_4
 have HB := D (Below.refl w.heap.size w)
 have H:(if a1_2=true then (some true) else ((impl_VecMost.f a1_3 a1_4 a1_5 a0_1 a0_2 a0_3).bind fun bt446=>(some (!(bt446.1 == a0_1) || (!(bt446.2.1 == a0_2) || (!(bt446.2.2 == a0_3)))))))=some r:=h
 clear h
 by_cases c3 : a1_2 = true
 ·subst c3
  rw [if_pos rfl] at H; obtain rfl := Option.some.inj H; go_enter Try.func43, Try.ntmps43
  try go_wp2_with (first|((with_reducible refine gate_dst (N:=2) rfl ?_);refine bx_ (N:=2) (cs:=#[I L a0_0,I L a0_1,I L a0_2,I L a0_3,Y A0_4 l0_4.length c0_4]) (t:=34) ?_;intro gb444 hg w4 hbox hb;have n_:=an_ (below_step (pB_ HB.out) hb)<|an_ (hbox)<|an_ (bg_ hg (pB_ HB.out):w.heap.size≤gb444)<|D (bg_ hg (pB_ HB.out):w.heap.size≤gb444);clear HB;obtain ⟨HB,BK444,GW444,GE444⟩:=n_;clear hb hbox hg)|((with_reducible refine gate_dst (N:=3) rfl ?_);refine bx_ (N:=3) (cs:=#[I L a1_0,I L a1_1,.bool true,I L a1_3,I L a1_4,I L a1_5]) (t:=67) ?_;intro gb445 hg w5 hbox hb;have n_:=an_ (blk_below (pk_ BK444.out) hb)<|an_ (below_step (pB_ HB.out) hb)<|an_ (hbox)<|an_ (bg_ hg (pB_ HB.out):w.heap.size≤gb445)<|an_ (bg_ hg (pB_ HB.out):w.heap.size≤gb445)<|an_ (nl_ hg (pk_ BK444.out):gb444≠gb445)<|D (by rw [hg];exact Nat.ne_of_gt (blk_lt (pk_ BK444.out)):gb445≠gb444);clear BK444 HB;obtain ⟨BK444,HB,BK445,GW445,GE445,NB444_445,NB445_444⟩:=n_;clear hb hbox hg))
  have n_ := an_ (blk_drew BK444.out) <| an_ (blk_drew BK445.out) <| D (below_drew1 HB.out)
  clear BK444 BK445 HB;obtain ⟨BK444,BK445,HB⟩:=n_;refine start_ (n:=13) (S:=fun w'=>w'.cell? ⟨gb445,0,none⟩=some (I L a1_0)∧w'.cell? ⟨gb445,1,none⟩=some (I L a1_1)∧w'.cell? ⟨gb445,2,none⟩=some (.bool true)∧w'.cell? ⟨gb445,3,none⟩=some (I L a1_3)∧w'.cell? ⟨gb445,4,none⟩=some (I L a1_4)∧w'.cell? ⟨gb445,5,none⟩=some (I L a1_5)) (ds:=[]) (bz 13 0) (by kernel_rfl) rfl (by kernel_rfl) (be6_ BK445.out) (fun hHeld=>?_);refine with_tabW impl_Fair_owes.tab1 impl_Fair_owes.bits1 (fun HT_ HW_=>?_);generalize w5.drew=w6 at BK444 BK445 HB hHeld ⊢;refine pb_ 0 ?_;refine tb_ 1 rfl rfl hHeld Z47 ?_;refine pb_ 2 ?_;refine ob_ 3 ?_;refine ob_ 4 ?_;refine ob_ 5 ?_;refine ob_ 6 ?_;refine ob_ 7 ?_;refine ob_ 8 ?_;refine ob_ 9 ?_;refine ob_ 10 ?_;refine pb_ 11 ?_;refine pb_ 12 ?_;refine done_ (done_of HT_.out (by kernel_rfl)) ?_
  try go_wp2
  go_ret; exact ⟨er_, pB_ HB.out⟩
 ·replace c3 := Bool.eq_false_iff.mpr c3
  subst c3;rw [if_neg (show ¬ (false=true) by decide)] at H;obtain ⟨⟨t446,t447,t448⟩,A70,H⟩:=bs_.mp H;(try dsimp only at H);have A7:=D A70;clear A70;obtain rfl:=Option.some.inj H;go_enter Try.func43,Try.ntmps43
  try go_wp2_with (first|((with_reducible refine gate_dst (N:=2) rfl ?_);refine bx_ (N:=2) (cs:=#[I L a0_0,I L a0_1,I L a0_2,I L a0_3,Y A0_4 l0_4.length c0_4]) (t:=34) ?_;intro gb444 hg w8 hbox hb;have n_:=an_ (below_step (pB_ HB.out) hb)<|an_ (hbox)<|an_ (bg_ hg (pB_ HB.out):w.heap.size≤gb444)<|D (bg_ hg (pB_ HB.out):w.heap.size≤gb444);clear HB;obtain ⟨HB,BK444,GW444,GE444⟩:=n_;clear hb hbox hg)|((with_reducible refine gate_dst (N:=3) rfl ?_);refine bx_ (N:=3) (cs:=#[I L a1_0,I L a1_1,.bool false,I L a1_3,I L a1_4,I L a1_5]) (t:=67) ?_;intro gb445 hg w9 hbox hb;have n_:=an_ (blk_below (pk_ BK444.out) hb)<|an_ (below_step (pB_ HB.out) hb)<|an_ (hbox)<|an_ (bg_ hg (pB_ HB.out):w.heap.size≤gb445)<|an_ (bg_ hg (pB_ HB.out):w.heap.size≤gb445)<|an_ (nl_ hg (pk_ BK444.out):gb444≠gb445)<|D (by rw [hg];exact Nat.ne_of_gt (blk_lt (pk_ BK444.out)):gb445≠gb444);clear BK444 HB;obtain ⟨BK444,HB,BK445,GW445,GE445,NB444_445,NB445_444⟩:=n_;clear hb hbox hg))
  have n_ := an_ (blk_drew BK444.out) <| an_ (blk_drew BK445.out) <| D (below_drew1 HB.out)
  clear BK444 BK445 HB;obtain ⟨BK444,BK445,HB⟩:=n_;refine start_ (n:=13) (S:=fun w'=>w'.cell? ⟨gb445,0,none⟩=some (I L a1_0)∧w'.cell? ⟨gb445,1,none⟩=some (I L a1_1)∧w'.cell? ⟨gb445,2,none⟩=some (.bool false)∧w'.cell? ⟨gb445,3,none⟩=some (I L a1_3)∧w'.cell? ⟨gb445,4,none⟩=some (I L a1_4)∧w'.cell? ⟨gb445,5,none⟩=some (I L a1_5)∧w'.cell? ⟨gb444,0,none⟩=some (I L a0_0)∧w'.cell? ⟨gb444,1,none⟩=some (I L a0_1)∧w'.cell? ⟨gb444,2,none⟩=some (I L a0_2)∧w'.cell? ⟨gb444,3,none⟩=some (I L a0_3)∧w'.cell? ⟨gb444,4,none⟩=some (Y A0_4 l0_4.length c0_4)) (ds:=[]) (bz 13 0) (by kernel_rfl) rfl (by kernel_rfl) (bk6_ BK445.out (be5_ BK444.out)) (fun hHeld=>?_);refine with_tabW impl_Fair_owes.tab1 impl_Fair_owes.bits1 (fun HT_ HW_=>?_);generalize w9.drew=w10 at BK444 BK445 HB hHeld ⊢;refine pb_ 0 ?_;refine tb_ 1 rfl rfl hHeld Z46 ?_;refine pb_ 2 ?_;refine pb_ 3 ?_;refine pb_ 5 ?_;refine pb_ 8 ?_;refine tb_ 4 rfl rfl hHeld Z46 ?_;refine tb_ 6 rfl rfl hHeld Z46 ?_;refine tb_ 9 rfl rfl hHeld Z46 ?_;refine oa_ 7 12 13 1023 HT_ (fun K hK=>?_);refine goes_ Try.func62 (by kernel_rfl) rfl #[.agg #[I L a1_3,I L a1_4,I L a1_5],.agg #[I L a0_1,I L a0_2,I L a0_3]] (by rfl) rfl rfl Z14 ?_;with_reducible refine (impl_VecMost.calls a1_3 a1_4 a1_5 a0_1 a0_2 a0_3 t446 t447 t448 _ A7.out).mono ?_
  rintro e w11 ⟨rfl, hb⟩; refine ⟨_, rfl, ?_⟩
  have n_ := an_ (blk_below (pk_ BK444.out) hb) <| an_ (blk_below (pk_ BK445.out) hb) <| D (below_step (pB_ HB.out) hb)
  clear BK444 BK445 HB;obtain ⟨BK444,BK445,HB⟩:=n_;refine hK.out _ _ (bk6_ BK445.out (be5_ BK444.out)) (fun hHeld=>?_);clear hK K;refine nx_ (N:=some 12) ?_;refine pb_ 10 ?_;refine pb_ 11 ?_;refine pb_ 12 ?_;refine done_ (done_of HT_.out (by kernel_rfl)) ?_
  try go_wp2
  go_ret; exact ⟨er_, pB_ HB.out⟩

/-! ### slices.Delete of one element: function 45, by a walk of its own -/
set_option maxHeartbeats 8000000 in
set_option maxRecDepth 100000 in
theorem del45_ {w0 w : World} {base n c g : Nat} {ok : Nat → Prop} {xs : List S67} {i j : Int} (HO : Kd.R k67 67 w base ok (Y (some ⟨g, 0, none⟩) n c) xs) (HB0 : Below base w0 w) (hsz : base ≤ w.heap.size) (hi : 0 ≤ i) (hin : i < (n : Int)) (hj : j = wrap64 (i + 1)) :
  Calls Try.prog 45 #[Y (some ⟨g,0,none⟩) n c,I L i,I L j] w fun e w'=>e=.returned (Y (some ⟨g,0,none⟩) (n - 1) c)∧Kd.R k67 67 w' base ok (Y (some ⟨g,0,none⟩) (n - 1) c) (xs.eraseIdx i.toNat)∧w.grownBy w' (some g)∧Below base w0 w':=by
 have hbl := (Kd.R_reads' HO).2.2.2.1
 have hnx := (Kd.R_reads' HO).1
 have hj' : j = i + 1 := by rw [hj]; unfold wrap64; omega
 subst hj'
 clear hj hbl hnx
 obtain ⟨k, rfl⟩ : ∃ k : Nat, i = k := ⟨i.toNat, by omega⟩
 have h1 : k < n := by omega
 rw [Int.toNat_natCast]
 clear hi hin
 have hnc : n ≤ c := (Kd.R_reads' HO).2.1
 have hu32 := Try.underlying32
 have hu67 := Try.underlying67
 have HH := D HO
 clear HO
 have hkc : k ≤ c := by omega
 have hjc : k + 1 ≤ c := by omega
 have hb0 : (0 : Int) ≤ (k : Int) + 1 := by omega
 have hb1 : (k : Int) + 1 ≤ (n : Int) := by omega
 have HB := D HB0
 clear HB0
 go_enter Try.func45, Try.ntmps45
 go_wp2_with fail
 go_region_law ((refine Kd.R_delete_step k67 (w0:=w0) base rfl (.tmp 22) (.tmp 25) 32 67 rfl Try.underlying32 (by kernel_rfl) (g:=g) (n:=n) (c:=c) (k:=k) rfl rfl (by simp only [Option.map_some,add_plain,show (k67).sz=6 from rfl]) (by first|rfl|omega) (Kd.R_drew HH.out) h1 (below_drew1 HB.out) hsz ?_;intro W1 HR1 HB1 HG1))
 obtain ⟨cur, hcur, hcs⟩ := R_blk HR1
 have hcs6 : cur.size = c * 6 := hcs
 have hcl:∀ ty,(Builtin.clear_ #[32] ty #[Y (some ⟨g,(n - 1) * 6,none⟩) 1 (c - (n - 1))]).run Try.prog W1=.ok (.tuple #[]) (W1.setCells g ((n - 1) * 6) [I L 0,I L 0,.bool false,I L 0,I L 0,I L 0]) :=
  fun ty=>clr1_run (z:=(.agg #[I L 0,I L 0,.bool false,I L 0,I L 0,I L 0])) (e':=67) (cur:=cur) hu32 (fun w=>by rfl) (by simp [Value.cells,Value.oneCell']) hcur (by simp [Value.cells];omega)
 obtain ⟨HR2, HG2⟩ := R_tail k67 (o := (n - 1) * 6) (zs := [I L 0, I L 0, .bool false, I L 0, I L 0, I L 0]) HR1 (Nat.le_refl _) (by simp; show _ ≤ c * 6; omega)
 have HR3 := D HR2
 have HG3 := D (World.grownBy.trans (World.grownBy.trans (show w.grownBy w.drew (some g) from ⟨rfl, rfl, rfl, Nat.le_refl _, fun _ _ _ => rfl⟩) HG1) HG2 : w.grownBy _ (some g))
 have hgb : base ≤ g := Kd.R_base HR2 g (by simp [Value.ownBlock])
 have HB2 := D (HB1.grown HG2 (by have := HG1.size; have h_ : w.drew.heap.size = w.heap.size := rfl; omega) (fun k hk => by injection hk with hk; omega))
 clear HR1 HR2 HG1 HG2 hcur hcs hcs6 HB1 hgb
 have hn1 : n - (n - 1) = 1 := by omega
 have hne : ¬ (c = n - 1) := by omega
 have hb2 : (0 : Int) ≤ ((n - 1 : Nat) : Int) := by omega
 have hb3 : ((n - 1 : Nat) : Int) ≤ (n : Int) := by omega
 have hb4 : n - 1 ≤ n := by omega
 go_wp2
 all_goals (go_ret; first | exact ⟨rfl, HR3.out, HG3.out, HB2.out⟩ | (subst_vars; exact ⟨rfl, HR3.out, HG3.out, HB2.out⟩))

/-! ### impl_FairLeave: function 21 -/
def impl_FairLeave.f (k : Nat) (a0_0 a0_1 a0_2 a0_3 : Int) (l0_4 : List (S67)) (a1 : Int) : Option (Int × Int × Int × Int × (List (S67)) × Int) := (impl_Fair_at.f k a0_0 a0_1 a0_2 a0_3 l0_4 a1).bind fun t451 => ((impl_FairOk.f k a0_0 a0_1 a0_2 a0_3 l0_4).bind fun t452 => (if t452 = true then (if t451 < 0 then (some (0, 0, 0, 0, ([] : List (S67)), 4)) else (if 0 ≤ t451 then (if t451 < (l0_4.length : Int) then ((impl_Fair_owes.f a0_0 a0_1 a0_2 a0_3 l0_4 ((rd_T67 l0_4 t451).f0) ((rd_T67 l0_4 t451).f1) ((rd_T67 l0_4 t451).f2) ((rd_T67 l0_4 t451).f3.f0) ((rd_T67 l0_4 t451).f3.f1) ((rd_T67 l0_4 t451).f3.f2)).bind fun t454 => (if t454 = true then (some (0, 0, 0, 0, ([] : List (S67)), 5)) else ((impl_copyFair.f a0_0 a0_1 a0_2 a0_3 l0_4).bind fun bt455 => (if t451 < (bt455.2.2.2.2.length : Int) then (some (bt455.1, bt455.2.1, bt455.2.2.1, bt455.2.2.2.1, (bt455.2.2.2.2.eraseIdx (t451 : Int).toNat), 0)) else (none))))) else (none)) else (none))) else (some (0, 0, 0, 0, ([] : List (S67)), 1))))
def impl_FairLeave.T6 : Bool × List (List Nat × List Nat) := (true, [([], []), ([], []), ([1], [1]), ([], []), ([2, 3], [2, 3]), ([4], [4]), ([0, 5], [0, 5]), ([6, 6], [6])])
def impl_FairLeave.B6 : List Nat := [0, 0, 2, 0, 14, 30, 63, 127]
theorem impl_FairLeave.tab6 : rtab .any (opsOf Try.f21 6) = impl_FairLeave.T6 := by kernel_rfl
theorem impl_FairLeave.bits6 : waitsOk impl_FairLeave.T6.2 impl_FairLeave.B6 = true := by kernel_rfl
set_option maxHeartbeats 8000000 in
set_option maxRecDepth 100000 in
theorem impl_FairLeave.calls (k : Nat) (a0_0 a0_1 a0_2 a0_3 : Int) (A0_4 : Option Addr) (c0_4 : Nat) (l0_4 : List (S67)) (a1 r1 r2 r3 r4 : Int) (r5 : List (S67)) (r6 : Int) (w : World) (hr0_4 : Kd.C k67 w A0_4 l0_4.length l0_4) (hc0_4 : l0_4.length ≤ c0_4) (h : impl_FairLeave.f k a0_0 a0_1 a0_2 a0_3 l0_4 a1 = some (r1, r2, r3, r4, r5, r6)) :
  Calls Try.prog 21 #[.agg #[I L a0_0,I L a0_1,I L a0_2,I L a0_3,Y A0_4 l0_4.length c0_4],I L a1] w fun e w'=>∃ v4_:Value,e=.returned (.tuple #[.agg #[I L r1,I L r2,I L r3,I L r4,v4_],I L r6])∧Kd.R k67 67 w' w.heap.size (fun _=>True) v4_ r5∧Below w.heap.size w w':=by
 have hu34 := Try.underlying34
 have hu67 := Try.underlying67
 have HR0_4 := D hr0_4
 have HC0_4 := D hc0_4
 clear hr0_4 hc0_4
 have HB := D (Below.refl w.heap.size w)
 have H:((impl_Fair_at.f k a0_0 a0_1 a0_2 a0_3 l0_4 a1).bind fun Ka=>((impl_FairOk.f k a0_0 a0_1 a0_2 a0_3 l0_4).bind fun Md=>(if Md=true then (if Ka < 0 then (some (0,0,0,0,([]:List (S67)),4)) else (if 0≤Ka then (if Ka < (l0_4.length:Int) then ((impl_Fair_owes.f a0_0 a0_1 a0_2 a0_3 l0_4 ((rd_T67 l0_4 Ka).f0) ((rd_T67 l0_4 Ka).f1) ((rd_T67 l0_4 Ka).f2) ((rd_T67 l0_4 Ka).f3.f0) ((rd_T67 l0_4 Ka).f3.f1) ((rd_T67 l0_4 Ka).f3.f2)).bind fun Od=>(if Od=true then (some (0,0,0,0,([]:List (S67)),5)) else ((impl_copyFair.f a0_0 a0_1 a0_2 a0_3 l0_4).bind fun bt455=>(if Ka < (bt455.2.2.2.2.length:Int) then (some (bt455.1,bt455.2.1,bt455.2.2.1,bt455.2.2.2.1,(bt455.2.2.2.2.eraseIdx (Ka:Int).toNat),0)) else (none))))) else (none)) else (none))) else (some (0,0,0,0,([]:List (S67)),1)))))=some (r1,r2,r3,r4,r5,r6):=h
 clear h
 obtain ⟨Ka, A30, H⟩ := bs_.mp H
 (try dsimp only at H)
 have A3 := D A30
 clear A30
 obtain ⟨Md, A40, H⟩ := bs_.mp H
 (try dsimp only at H)
 have A4 := D A40
 clear A40
 have HU5 := D H
 clear H
 go_enter Try.func21, Try.ntmps21
 go_upto_if 11 with (first|((with_reducible refine gate_dst (N:=2) rfl ?_);refine bx_ (N:=2) (cs:=#[I L a0_0,I L a0_1,I L a0_2,I L a0_3,Y A0_4 l0_4.length c0_4]) (t:=34) ?_;intro Xa hg w6 hbox hb;have n_:=an_ (below_step (pB_ HB.out) hb)<|an_ (hbox)<|an_ (bg_ hg (pB_ HB.out):w.heap.size≤Xa)<|D (bg_ hg (pB_ HB.out):w.heap.size≤Xa);clear HB;obtain ⟨HB,Ja,Je,Ke⟩:=n_;clear hb hbox hg)|((with_reducible refine gate_dst (N:=4) rfl ?_);refine bx_ (N:=4) (cs:=#[I L 0,I L 0,I L 0,I L 0,Y none 0 0]) (t:=34) ?_;intro Kb hg w7 hbox hb;have n_:=an_ (blk_below (pk_ Ja.out) hb)<|an_ (below_step (pB_ HB.out) hb)<|an_ (hbox)<|an_ (bg_ hg (pB_ HB.out):w.heap.size≤Kb)<|an_ (bg_ hg (pB_ HB.out):w.heap.size≤Kb)<|an_ (nl_ hg (pk_ Ja.out):Xa≠Kb)<|D (by rw [hg];exact Nat.ne_of_gt (blk_lt (pk_ Ja.out)):Kb≠Xa);clear Ja HB;obtain ⟨Ja,HB,Ma,Me,Oe,Uc,Xc⟩:=n_;clear hb hbox hg;(try have:=Uc.out);(try have:=Xc.out);have Ue:=cells5 Ja.out)|((with_reducible refine gate_callee (f:=40) rfl ?_);refine goesL_ (some 10) rfl rfl Try.func40 (by kernel_rfl) rfl #[.agg #[I L a0_0,I L a0_1,I L a0_2,I L a0_3,Y A0_4 l0_4.length c0_4],I L a1] rfl Z14 ?_;(with_reducible refine (impl_Fair_at.calls k a0_0 a0_1 a0_2 a0_3 _ _ l0_4 a1 Ka _ ?side1 ?side2 A3.out).mono ?_);(case side1=>exact pC_ (Kd.C_below HR0_4.out HB.out));(case side2=>exact HC0_4.out);rintro e w10 ⟨rfl,hb⟩;refine ⟨_,rfl,?_⟩;have n_:=an_ (blk_below (pk_ Ja.out) hb)<|an_ (blk_below (pk_ Ma.out) hb)<|D (below_step (pB_ HB.out) hb);clear Ja Ma HB;obtain ⟨Ja,Ma,HB⟩:=n_;(try clear hb);have Mg:=cells5 Ja.out)|((with_reducible refine gate_callee (f:=42) rfl ?_);refine goesL_ (some 13) rfl rfl Try.func42 (by kernel_rfl) rfl #[.agg #[I L a0_0,I L a0_1,I L a0_2,I L a0_3,Y A0_4 l0_4.length c0_4]] rfl Z14 ?_;(with_reducible refine (impl_FairOk.calls k a0_0 a0_1 a0_2 a0_3 _ _ l0_4 Md _ ?side1 ?side2 A4.out).mono ?_);(case side1=>exact pC_ (Kd.C_below HR0_4.out HB.out));(case side2=>exact HC0_4.out);rintro e w12 ⟨rfl,hb⟩;refine ⟨_,rfl,?_⟩;have n_:=an_ (blk_below (pk_ Ja.out) hb)<|an_ (blk_below (pk_ Ma.out) hb)<|D (below_step (pB_ HB.out) hb);clear Ja Ma HB;obtain ⟨Ja,Ma,HB⟩:=n_;(try clear hb)))
 have H := HU5.out
 clear HU5
 by_cases c13 : Md = true
 ·subst c13
  rw [if_pos rfl] at H
  by_cases c14 : Ka < 0
  ·rw [if_pos c14] at H
   have c14b0:decide (Ka < 0)=true:=decide_eq_true c14;clear c14;refine rw_ c14b0 ?_;simp only [Option.some.injEq,Prod.mk.injEq] at H;obtain ⟨rfl,rfl,rfl,rfl,rfl,rfl⟩:=H;(try have:=Xc.out);(try have:=Uc.out);have Ji:=cells5 Ma.out
   go_wp2
   refine bodyPost_ret (results_ct rfl _ _ Kb 34 #[I L 0,I L 0,I L 0,I L 0,Y none 0 0] (0,0) _ rfl Z6 Try.underlying34 rfl (by kernel_rfl)) rfl ?_;exact ⟨_,er_,by first|exact Kd.R_nil _ _ _ _ _|exact Kd.N_nil _ _ _ _ _|exact Kd.V_nil _ _ _ _ _|exact Kd.Q_nil _ _ _ _ _|exact Kd.S_nil _ _ _ _ _,pB_ HB.out⟩
  ·rw [if_neg c14] at H
   have c14b0:decide (Ka < 0)=false:=decide_eq_false c14;clear c14;refine rw_ c14b0 ?_
   by_cases c17 : 0 ≤ Ka
   ·rw [if_pos c17] at H
    have c17b0 : decide (0 ≤ Ka) = true := decide_eq_true c17; clear c17
    by_cases c18 : Ka < (l0_4.length : Int)
    ·rw [if_pos c18] at H
     have c18b0:decide (Ka < (l0_4.length:Int))=true:=decide_eq_true c18;clear c18;obtain ⟨Od,A190,H⟩:=bs_.mp H;(try dsimp only at H);have A19:=D A190;clear A190;have HU20:=D H;clear H
     try go_wp2
     have n_ := an_ (blk_drew Ja.out) <| an_ (blk_drew Ma.out) <| D (below_drew1 HB.out)
     clear Ja Ma HB;obtain ⟨Ja,Ma,HB⟩:=n_;have p453:0≤(Ka:Int):=od_ Z50;have q453:Ka < (l0_4.length:Int):=od_ Z50;obtain ⟨ad453,e453,hx453_0,hx453_1,hx453_2,hx453_3,hx453_4,hx453_5⟩:=at_T67 HR0_4.out Ka p453 q453;have hw453_5:=hx453_5;have hw453_4:=hx453_4;have hw453_3:=hx453_3;have hw453_2:=hx453_2;have hw453_1:=hx453_1;have hw453_0:=hx453_0;cases e453;replace hx453_0:=rc_ HB.out hx453_0;replace hx453_1:=rc_ HB.out hx453_1;replace hx453_2:=rc_ HB.out hx453_2;replace hx453_3:=rc_ HB.out hx453_3;replace hx453_4:=rc_ HB.out hx453_4;replace hx453_5:=rc_ HB.out hx453_5;replace p453:=eq_true p453;replace q453:=eq_true q453;refine start_ (n:=8) (S:=fun w'=>w'.cell? ⟨Xa,0,none⟩=some (I L a0_0)∧w'.cell? ⟨Xa,1,none⟩=some (I L a0_1)∧w'.cell? ⟨Xa,2,none⟩=some (I L a0_2)∧w'.cell? ⟨Xa,3,none⟩=some (I L a0_3)∧w'.cell? ⟨Xa,4,none⟩=some (Y (some ad453) l0_4.length c0_4)∧w'.cell? (ad453.add ((Ka).toNat * 6))=some (I L ((rd_T67 l0_4 Ka).f0))∧w'.cell? ⟨(ad453.add ((Ka).toNat * 6)).block,(ad453.add ((Ka).toNat * 6)).off + 1,none⟩=some (I L ((rd_T67 l0_4 Ka).f1))∧w'.cell? ⟨(ad453.add ((Ka).toNat * 6)).block,(ad453.add ((Ka).toNat * 6)).off + 2,none⟩=some (.bool ((rd_T67 l0_4 Ka).f2))∧w'.cell? ⟨(ad453.add ((Ka).toNat * 6)).block,(ad453.add ((Ka).toNat * 6)).off + 3,none⟩=some (I L ((rd_T67 l0_4 Ka).f3.f0))∧w'.cell? ⟨(ad453.add ((Ka).toNat * 6)).block,(ad453.add ((Ka).toNat * 6)).off + 4,none⟩=some (I L ((rd_T67 l0_4 Ka).f3.f1))∧w'.cell? ⟨(ad453.add ((Ka).toNat * 6)).block,(ad453.add ((Ka).toNat * 6)).off + 5,none⟩=some (I L ((rd_T67 l0_4 Ka).f3.f2))) (ds:=[]) (bz 8 0) (by kernel_rfl) rfl (by kernel_rfl) (bk5_ Ja.out (re6_ HB.out hw453_0 hw453_1 hw453_2 hw453_3 hw453_4 hw453_5)) (fun hHeld=>?_);refine with_tabW impl_FairLeave.tab6 impl_FairLeave.bits6 (fun HT_ HW_=>?_);generalize w12.drew=w21 at Ja Ma HB hx453_0 hx453_1 hx453_2 hx453_3 hx453_4 hx453_5 hHeld ⊢;refine pb_ 1 ?_;refine pb_ 3 ?_;refine tb_ 0 rfl rfl hHeld Z46 ?_;refine tb_ 2 rfl rfl hHeld Z46 ?_;refine pb_ 4 ?_;refine tb_ 5 rfl rfl hHeld Z46 ?_;refine oa_ 6 27 8 127 HT_ (fun K hK=>?_);refine goes_ Try.func43 (by kernel_rfl) rfl #[.agg #[I L a0_0,I L a0_1,I L a0_2,I L a0_3,Y (some ad453) l0_4.length c0_4],.agg #[I L ((rd_T67 l0_4 Ka).f0),I L ((rd_T67 l0_4 Ka).f1),.bool ((rd_T67 l0_4 Ka).f2),I L ((rd_T67 l0_4 Ka).f3.f0),I L ((rd_T67 l0_4 Ka).f3.f1),I L ((rd_T67 l0_4 Ka).f3.f2)]] (by rfl) rfl rfl Z14 ?_;with_reducible refine (impl_Fair_owes.calls a0_0 a0_1 a0_2 a0_3 _ _ l0_4 ((rd_T67 l0_4 Ka).f0) ((rd_T67 l0_4 Ka).f1) ((rd_T67 l0_4 Ka).f2) ((rd_T67 l0_4 Ka).f3.f0) ((rd_T67 l0_4 Ka).f3.f1) ((rd_T67 l0_4 Ka).f3.f2) Od _ ?side1 ?side2 A19.out).mono ?_
     (case side1 => exact pC_ (Kd.C_below HR0_4.out HB.out)); (case side2 => exact HC0_4.out); rintro e w22 ⟨rfl, hb⟩; refine ⟨_, rfl, ?_⟩
     have n_ := an_ (blk_below (pk_ Ja.out) hb) <| an_ (blk_below (pk_ Ma.out) hb) <| D (below_step (pB_ HB.out) hb)
     clear Ja Ma HB;obtain ⟨Ja,Ma,HB⟩:=n_;refine hK.out _ _ (bk5_ Ja.out (re6_ HB.out hw453_0 hw453_1 hw453_2 hw453_3 hw453_4 hw453_5)) (fun hHeld=>?_);clear hK K;refine nx_ (N:=some 27) ?_;refine pb_ 7 ?_;refine done_ (done_of HT_.out (by kernel_rfl)) ?_
     go_upto_if 20 with (fail)
     have H := HU20.out; clear HU20
     by_cases c23 : Od = true
     ·subst c23
      rw [if_pos rfl] at H;simp only [Option.some.injEq,Prod.mk.injEq] at H;obtain ⟨rfl,rfl,rfl,rfl,rfl,rfl⟩:=H;(try have:=Xc.out);(try have:=Uc.out);have Uj:=cells5 Ma.out
      go_wp2
      refine bodyPost_ret (results_ct rfl _ _ Kb 34 #[I L 0,I L 0,I L 0,I L 0,Y none 0 0] (0,0) _ rfl Z6 Try.underlying34 rfl (by kernel_rfl)) rfl ?_;exact ⟨_,er_,by first|exact Kd.R_nil _ _ _ _ _|exact Kd.N_nil _ _ _ _ _|exact Kd.V_nil _ _ _ _ _|exact Kd.Q_nil _ _ _ _ _|exact Kd.S_nil _ _ _ _ _,pB_ HB.out⟩
     ·replace c23 := Bool.eq_false_iff.mpr c23
      subst c23;rw [if_neg (show ¬ (false=true) by decide)] at H;obtain ⟨⟨Jb,Mb,Xb,Jc,Ub⟩,A260,H⟩:=bs_.mp H;(try dsimp only at H);have A26:=D A260;clear A260
      by_cases c27 : Ka < (Ub.length : Int)
      ·rw [if_pos c27] at H
       have c27b0:=eq_true c27;have c27b1:decide (Ka < (Ub.length:Int))=true:=decide_eq_true c27;clear c27;obtain ⟨y463,hy463⟩:∃ y_:List (S67),y_=(Ub.eraseIdx (Ka:Int).toNat):=⟨_,rfl⟩
       replace H:(some (Jb,Mb,Xb,Jc,y463,0))=some (r1,r2,r3,r4,r5,r6):=by first|(rw [hy463];with_reducible exact H)|(have H2_:=(Option.bind_some _ _).symm.trans H;rw [hy463];with_reducible exact H2_)|(have H2_:=(Option.bind_some _ _).symm.trans H;with_reducible exact H2_)|with_reducible exact H|(rw [hy463];exact H)|exact H
       have Ny463:=D hy463;clear hy463;simp only [Option.some.injEq,Prod.mk.injEq] at H;obtain ⟨rfl,rfl,rfl,rfl,rfl,rfl⟩:=H;(try have:=Uc.out);(try have:=Xc.out);have Mm:=cells5 Ja.out
       go_wp2_with (first|((with_reducible refine gate_callee (f:=44) rfl ?_);refine goesL_ (some 30) rfl rfl Try.func44 (by kernel_rfl) rfl #[.agg #[I L a0_0,I L a0_1,I L a0_2,I L a0_3,Y (some ad453) l0_4.length c0_4]] rfl Z14 ?_;(with_reducible refine (impl_copyFair.calls a0_0 a0_1 a0_2 a0_3 _ _ l0_4 Jb Mb Xb Jc Ub _ ?side1 ?side2 A26.out).mono ?_);(case side1=>exact pC_ (Kd.C_below HR0_4.out HB.out));(case side2=>exact HC0_4.out);rintro e w30 ⟨Jo,rfl,ho0,hb⟩;refine ⟨_,rfl,?_⟩;have n_:=an_ (Kd.R_lower ho0 (below_size (pB_ HB.out)))<|an_ (blk_below (pk_ Ja.out) hb)<|an_ (blk_below (pk_ Ma.out) hb)<|D (below_step (pB_ HB.out) hb);clear Ja Ma HB;obtain ⟨Ob,Ja,Ma,HB⟩:=n_;(try clear hb);(try clear ho0))|((with_reducible refine gate_dst (N:=7) rfl ?_);refine bx_ (N:=7) (cs:=#[I L 0,I L 0,I L 0,I L 0,Y none 0 0]) (t:=34) ?_;intro Ua hg w31 hbox hb;have n_:=an_ (Kd.R_below (pR_ Ob.out) hb)<|an_ (blk_below (pk_ Ja.out) hb)<|an_ (blk_below (pk_ Ma.out) hb)<|an_ (below_step (pB_ HB.out) hb)<|an_ (hbox)<|an_ (bg_ hg (pB_ HB.out):w.heap.size≤Ua)<|an_ (bg_ hg (pB_ HB.out):w.heap.size≤Ua)<|an_ (nl_ hg (pk_ Ja.out):Xa≠Ua)<|an_ (ng_ hg (pk_ Ja.out):Ua≠Xa)<|an_ (nl_ hg (pk_ Ma.out):Kb≠Ua)<|D (by rw [hg];exact Nat.ne_of_gt (blk_lt (pk_ Ma.out)):Ua≠Kb);clear Ob Ja Ma HB;obtain ⟨Ob,Ja,Ma,HB,Oa,Ko,Mo,Oc,Ud,Mc,Xd⟩:=n_;clear hb hbox hg;(try have:=Ud.out);(try have:=Oc.out);(try have:=Xd.out);(try have:=Mc.out);have Oo:=cells5 Oa.out;obtain ⟨Jd,Kc,eo35⟩:=Kd.R_slice Ob.out;subst eo35)|((with_reducible refine gate_store (t:=34) (p:=7) rfl ?_);refine store_event (t:=34) (p:=7) (v:=?vo_w36) (w1:=(((((w31.setCell ⟨Ua,0,none⟩ (I L Jb)).setCell ⟨Ua,1,none⟩ (I L Mb)).setCell ⟨Ua,2,none⟩ (I L Xb)).setCell ⟨Ua,3,none⟩ (I L Jc)).setCell ⟨Ua,4,none⟩ (Y Jd Ub.length Kc))) ?hg ?ho ?hn ?hr ?_;(case ho=>rfl);(case hg=>rfl);(case hn=>rfl);(case hr=>first|(go_simp;done)|(go_simp;rfl));intro w36 hw;have n0_:Aside0 (Kd.R k67 67 w36 w.heap.size (fun _=>True) (Y Jd Ub.length Kc) Ub):=⟨(by rw [hw];exact (rM_ (Kd.R_types Ob.out Oa.out (by decide)) (fun _ hk=>trivial)))⟩;have n1_:Aside0 (w36.heap[Xa]?=some (.cells #[I L a0_0,I L a0_1,I L a0_2,I L a0_3,Y (some ad453) l0_4.length c0_4] 34 (0,0))):=⟨(by rw [hw];exact (by exact pP_ Ja.out))⟩;have n2_:Aside0 (w36.heap[Kb]?=some (.cells #[I L 0,I L 0,I L 0,I L 0,Y none 0 0] 34 (0,0))):=⟨(by rw [hw];exact (by exact pP_ Ma.out))⟩;have n3_:Aside0 (w36.heap[Ua]?=some (.cells #[I L Jb,I L Mb,I L Xb,I L Jc,Y Jd Ub.length Kc] 34 (0,0))):=⟨(by rw [hw];exact (by exact pP_ Oa.out))⟩;have n4_:Aside0 (Below w.heap.size w w36):=⟨(by rw [hw];exact (pB_ HB.out))⟩;clear hw;clear Ob;clear Ja;clear Ma;clear Oa;clear HB;have Ob:=n0_;have Ja:=n1_;have Ma:=n2_;have Oa:=n3_;have HB:=n4_;clear n0_ n1_ n2_ n3_ n4_;have Kq:=cells5 Oa.out)|((with_reducible refine gate_callee (f:=45) rfl ?_);have hj_:0≤(Ka:Int):=od_ Z50;have hl_:(Ka:Int) < (Ub.length:Int):=od_ Z50;obtain ⟨gd39,cap_,ev_,_⟩:=Kd.R_form Ob.out (by omega);injection ev_ with ea_ el_ ec_;subst ea_;subst ec_;clear el_;refine goesL_ (some 36) rfl rfl Try.func45 (by kernel_rfl) rfl #[Y (some ⟨gd39,0,none⟩) Ub.length Kc,I L Ka,I L (wrap64 (Ka + 1))] rfl (by (try simp only [List.map_toArray,List.map_cons,List.map_nil]);first|done|rfl|(go_simp;done)) ?_;refine (del45_ (w0:=w) (base:=w.heap.size) (pR_ Ob.out) (pB_ HB.out) (below_size (pB_ HB.out)) hj_ hl_ rfl).mono ?_;rintro e w38 ⟨rfl,ho,hg,hb⟩;refine ⟨_,rfl,?_⟩;clear hj_ hl_;rw [← Ny463.out] at ho;have hn_:Ub.length - 1=y463.length:=(by have:=(Kd.R_reads' ho).1;omega);rw [hn_] at ho ⊢;clear hn_;have n_:=an_ (blk_grown (pk_ Ja.out) hg (Kd.R_ne Ob.out Ja.out (by decide)))<|an_ (blk_grown (pk_ Ma.out) hg (Kd.R_ne Ob.out Ma.out (by decide)))<|an_ (ho)<|an_ (blk_grown (pk_ Oa.out) hg (Kd.R_ne Ob.out Oa.out (by decide)))<|D (hb);clear Ja Ma Ob Oa HB;obtain ⟨Ja,Ma,Ob,Oa,HB⟩:=n_;clear ho hb hg;have Xr:=cells5 Oa.out;have Ou:=cells5 Ma.out))
       refine bodyPost_ret (results_ct rfl _ _ Kb 34 #[I L Jb,I L Mb,I L Xb,I L Jc,Y (some ⟨gd39,0,none⟩) y463.length Kc] (0,0) _ rfl (by exact pP_ Ma.out) Try.underlying34 rfl (by kernel_rfl)) rfl ?_;exact ⟨_,er_,by (with_reducible repeat (first|apply Kd.R_alloc|apply Kd.R_drewN|apply Kd.R_drew));exact Kd.R_mono (fr_ (fr_ (fr_ (fr_ (fr_ (Kd.R_far (p:=⟨Ua,4,none⟩) (Kd.R_types (Kd.R_types Ob.out Oa.out (by decide)) Ma.out (by decide)) (fun _ hk=>hk.1.2) (Y (some ⟨gd39,0,none⟩) y463.length Kc)) 0 (I L Jb)) 1 (I L Mb)) 2 (I L Xb)) 3 (I L Jc)) 4 (Y (some ⟨gd39,0,none⟩) y463.length Kc)) (fun _ hk=>trivial),pB_ HB.out⟩
      ·rw [if_neg c27] at H
       exact absurd H (by simp)
    ·rw [if_neg c18] at H
     exact absurd H (by simp)
   ·rw [if_neg c17] at H
    exact absurd H (by simp)
 ·replace c13 := Bool.eq_false_iff.mpr c13
  subst c13;rw [if_neg (show ¬ (false=true) by decide)] at H;simp only [Option.some.injEq,Prod.mk.injEq] at H;obtain ⟨rfl,rfl,rfl,rfl,rfl,rfl⟩:=H;(try have:=Xc.out);(try have:=Uc.out);have Kx:=cells5 Ma.out
  go_wp2
  refine bodyPost_ret (results_ct rfl _ _ Kb 34 #[I L 0,I L 0,I L 0,I L 0,Y none 0 0] (0,0) _ rfl Z6 Try.underlying34 rfl (by kernel_rfl)) rfl ?_;exact ⟨_,er_,by first|exact Kd.R_nil _ _ _ _ _|exact Kd.N_nil _ _ _ _ _|exact Kd.V_nil _ _ _ _ _|exact Kd.Q_nil _ _ _ _ _|exact Kd.S_nil _ _ _ _ _,pB_ HB.out⟩

/-! ### impl_TreeShed_1: function 20 -/
def impl_TreeShed_1.f (k : Nat) (a0_0 a0_1 a0_2 a0_3 : Int) (l0_4 : List (S67)) (a1_0 : Int) : Option (Int × Int × Int × Int × (List (S67)) × Int) := (impl_FairLeave.f k a0_0 a0_1 a0_2 a0_3 l0_4 a1_0).bind fun bt468 => (some (bt468.1, bt468.2.1, bt468.2.2.1, bt468.2.2.2.1, bt468.2.2.2.2.1, bt468.2.2.2.2.2))
set_option maxHeartbeats 8000000 in
set_option maxRecDepth 100000 in
theorem impl_TreeShed_1.calls (k : Nat) (a0_0 a0_1 a0_2 a0_3 : Int) (A0_4 : Option Addr) (c0_4 : Nat) (l0_4 : List (S67)) (gc1 : Nat) (a1_0 r1 r2 r3 r4 : Int) (r5 : List (S67)) (r6 : Int) (w : World) (hr0_4 : Kd.C k67 w A0_4 l0_4.length l0_4) (hc0_4 : l0_4.length ≤ c0_4) (hbx1 : w.heap[gc1]? = some (.cells #[I L a1_0] 3 (0, 0))) (h : impl_TreeShed_1.f k a0_0 a0_1 a0_2 a0_3 l0_4 a1_0 = some (r1, r2, r3, r4, r5, r6)) :
  Calls Try.prog 20 #[.agg #[I L a0_0,I L a0_1,I L a0_2,I L a0_3,Y A0_4 l0_4.length c0_4],.pointer (some ⟨gc1,0,none⟩)] w fun e w'=>∃ v4_:Value,e=.returned (.tuple #[.agg #[I L r1,I L r2,I L r3,I L r4,v4_],I L r6])∧Kd.R k67 67 w' w.heap.size (fun _=>True) v4_ r5∧Below w.heap.size w w':=by
 have hu34 := Try.underlying34
 have HR0_4 := D hr0_4
 have HC0_4 := D hc0_4
 clear hr0_4 hc0_4
 have BK1 := D hbx1
 clear hbx1
 have HB := D (Below.refl w.heap.size w)
 have H:((impl_FairLeave.f k a0_0 a0_1 a0_2 a0_3 l0_4 a1_0).bind fun bt468=>(some (bt468.1,bt468.2.1,bt468.2.2.1,bt468.2.2.2.1,bt468.2.2.2.2.1,bt468.2.2.2.2.2)))=some (r1,r2,r3,r4,r5,r6):=h
 clear h
 obtain ⟨⟨t468, t469, t470, t471, t472, t475⟩, A30, H⟩ := bs_.mp H
 (try dsimp only at H)
 have A3 := D A30
 clear A30
 simp only [Option.some.injEq, Prod.mk.injEq] at H
 obtain ⟨rfl, rfl, rfl, rfl, rfl, rfl⟩ := H
 go_enter Try.func20, Try.ntmps20
 go_wp2_with (first|((with_reducible refine gate_dst (N:=2) rfl ?_);refine bx_ (N:=2) (cs:=#[I L a0_0,I L a0_1,I L a0_2,I L a0_3,Y A0_4 l0_4.length c0_4]) (t:=34) ?_;intro gb466 hg w4 hbox hb;have n_:=an_ (blk_below (pk_ BK1.out) hb)<|an_ (below_step (pB_ HB.out) hb)<|an_ (hbox)<|an_ (bg_ hg (pB_ HB.out):w.heap.size≤gb466)<|an_ (bg_ hg (pB_ HB.out):w.heap.size≤gb466)<|an_ (nl_ hg (pk_ BK1.out):gc1≠gb466)<|D (by rw [hg];exact Nat.ne_of_gt (blk_lt (pk_ BK1.out)):gb466≠gc1);clear BK1 HB;obtain ⟨BK1,HB,BK466,GW466,GE466,NB1_466,NB466_1⟩:=n_;clear hb hbox hg)|((with_reducible refine gate_dst (N:=3) rfl ?_);refine bx_ (N:=3) (cs:=#[I L 0,I L 0,I L 0,I L 0,Y none 0 0]) (t:=34) ?_;intro gb467 hg w5 hbox hb;have n_:=an_ (blk_below (pk_ BK1.out) hb)<|an_ (blk_below (pk_ BK466.out) hb)<|an_ (below_step (pB_ HB.out) hb)<|an_ (hbox)<|an_ (bg_ hg (pB_ HB.out):w.heap.size≤gb467)<|an_ (bg_ hg (pB_ HB.out):w.heap.size≤gb467)<|an_ (nl_ hg (pk_ BK1.out):gc1≠gb467)<|an_ (ng_ hg (pk_ BK1.out):gb467≠gc1)<|an_ (nl_ hg (pk_ BK466.out):gb466≠gb467)<|D (by rw [hg];exact Nat.ne_of_gt (blk_lt (pk_ BK466.out)):gb467≠gb466);clear BK1 BK466 HB;obtain ⟨BK1,BK466,HB,BK467,GW467,GE467,NB1_467,NB467_1,NB466_467,NB467_466⟩:=n_;clear hb hbox hg;(try have:=NB466_1.out);(try have:=NB1_466.out);(try have:=NB466_467.out);(try have:=NB467_466.out);have hcz8_0:=cells5 BK466.out;(try have:=NB1_467.out);(try have:=NB467_1.out);have hcz10_0:=cells1 BK1.out)|((with_reducible refine gate_callee (f:=21) rfl ?_);refine goesL_ (some 7) rfl rfl Try.func21 (by kernel_rfl) rfl #[.agg #[I L a0_0,I L a0_1,I L a0_2,I L a0_3,Y A0_4 l0_4.length c0_4],I L a1_0] rfl Z14 ?_;(with_reducible refine (impl_FairLeave.calls k a0_0 a0_1 a0_2 a0_3 _ _ l0_4 a1_0 t468 t469 t470 t471 t472 t475 _ ?side1 ?side2 A3.out).mono ?_);(case side1=>exact pC_ (Kd.C_below HR0_4.out HB.out));(case side2=>exact HC0_4.out);rintro e w11 ⟨v473,rfl,ho0,hb⟩;refine ⟨_,rfl,?_⟩;have n_:=an_ (Kd.R_lower ho0 (below_size (pB_ HB.out)))<|an_ (blk_below (pk_ BK1.out) hb)<|an_ (blk_below (pk_ BK466.out) hb)<|an_ (blk_below (pk_ BK467.out) hb)<|D (below_step (pB_ HB.out) hb);clear BK1 BK466 BK467 HB;obtain ⟨HO474,BK1,BK466,BK467,HB⟩:=n_;(try clear hb);(try clear ho0);have hcz12_0:=cells5 BK467.out;obtain ⟨Ao13,co13,eo13⟩:=Kd.R_slice HO474.out;subst eo13))
 refine bodyPost_ret (results_ct rfl _ _ gb467 34 #[I L t468,I L t469,I L t470,I L t471,Y Ao13 t472.length co13] (0,0) _ rfl (by exact pP_ BK467.out) Try.underlying34 rfl (by kernel_rfl)) rfl ?_
 exact ⟨_,er_,by (with_reducible repeat (first|apply Kd.R_alloc|apply Kd.R_drewN|apply Kd.R_drew));exact Kd.R_mono (fr_ (fr_ (fr_ (fr_ (fr_ (Kd.R_types HO474.out BK467.out (by decide)) 0 (I L t468)) 1 (I L t469)) 2 (I L t470)) 3 (I L t471)) 4 (Y Ao13 t472.length co13)) (fun _ hk=>trivial),pB_ HB.out⟩

/-! ### impl_TreeShed: function 7 -/
def impl_TreeShed.f (k : Nat) (a0_0 a0_1 a0_2 a0_3 : Int) (l0_4 : List (S67)) (l0_5 : List (S50)) (a1 a2 : Int) : Option (Int × Int × Int × Int × (List (S67)) × (List (S50)) × Int) := (impl_Tree_change.f k a0_0 a0_1 a0_2 a0_3 l0_4 l0_5 a1 (fun z0_ z1_ z2_ z3_ z4_ => impl_TreeShed_1.f k z0_ z1_ z2_ z3_ z4_ a2)).bind fun bt479 => (some (bt479.1, bt479.2.1, bt479.2.2.1, bt479.2.2.2.1, bt479.2.2.2.2.1, bt479.2.2.2.2.2.1, bt479.2.2.2.2.2.2.2))
set_option maxHeartbeats 8000000 in
set_option maxRecDepth 100000 in
theorem impl_TreeShed.calls (k : Nat) (a0_0 a0_1 a0_2 a0_3 : Int) (A0_4 : Option Addr) (c0_4 : Nat) (l0_4 : List (S67)) (A0_5 : Option Addr) (c0_5 : Nat) (l0_5 : List (S50)) (a1 a2 r1 r2 r3 r4 : Int) (r5 : List (S67)) (r6 : List (S50)) (r7 : Int) (w : World) (hr0_4 : Kd.C k67 w A0_4 l0_4.length l0_4) (hc0_4 : l0_4.length ≤ c0_4) (hr0_5 : Kd.C k50 w A0_5 l0_5.length l0_5) (hc0_5 : l0_5.length ≤ c0_5) (h : impl_TreeShed.f k a0_0 a0_1 a0_2 a0_3 l0_4 l0_5 a1 a2 = some (r1, r2, r3, r4, r5, r6, r7)) :
  Calls Try.prog 7 #[.agg #[I L a0_0,I L a0_1,I L a0_2,I L a0_3,Y A0_4 l0_4.length c0_4,Y A0_5 l0_5.length c0_5],I L a1,I L a2] w fun e w'=>∃ v4_ v5_:Value,e=.returned (.tuple #[.agg #[I L r1,I L r2,I L r3,I L r4,v4_,v5_],I L r7])∧Kd.R k67 67 w' w.heap.size (fun _=>True) v4_ r5∧Kd.S k50 50 w' w.heap.size (fun k_=>some k_≠(v4_:Value).ownBlock) v5_ r6∧Below w.heap.size w w':=by
 have hu37 := Try.underlying37
 have hmf : ∀ (fn : Fn) (first cap : Array Value) (w : World), (Instr.makeFunc fn first cap).run Try.prog w = .ok (.func fn first cap) w := fun _ _ _ _ => rfl
 have HR0_4 := D hr0_4
 have HC0_4 := D hc0_4
 clear hr0_4 hc0_4
 have HR0_5 := D hr0_5
 have HC0_5 := D hc0_5
 clear hr0_5 hc0_5
 have HB := D (Below.refl w.heap.size w)
 have H:((impl_Tree_change.f k a0_0 a0_1 a0_2 a0_3 l0_4 l0_5 a1 (fun z0_ z1_ z2_ z3_ z4_=>impl_TreeShed_1.f k z0_ z1_ z2_ z3_ z4_ a2)).bind fun bt479=>(some (bt479.1,bt479.2.1,bt479.2.2.1,bt479.2.2.2.1,bt479.2.2.2.2.1,bt479.2.2.2.2.2.1,bt479.2.2.2.2.2.2.2)))=some (r1,r2,r3,r4,r5,r6,r7):=h
 clear h
 obtain ⟨⟨t479, t480, t481, t482, t483, t486, t489, t490⟩, A40, H⟩ := bs_.mp H
 (try dsimp only at H)
 have A4 := D A40
 clear A40
 simp only [Option.some.injEq, Prod.mk.injEq] at H
 obtain ⟨rfl, rfl, rfl, rfl, rfl, rfl, rfl⟩ := H
 go_enter Try.func7, Try.ntmps7
 go_wp2_with (first|((with_reducible refine gate_dst (N:=3) rfl ?_);refine bx_ (N:=3) (cs:=#[I L a0_0,I L a0_1,I L a0_2,I L a0_3,Y A0_4 l0_4.length c0_4,Y A0_5 l0_5.length c0_5]) (t:=37) ?_;intro gb476 hg w5 hbox hb;have n_:=an_ (below_step (pB_ HB.out) hb)<|an_ (hbox)<|an_ (bg_ hg (pB_ HB.out):w.heap.size≤gb476)<|D (bg_ hg (pB_ HB.out):w.heap.size≤gb476);clear HB;obtain ⟨HB,BK476,GW476,GE476⟩:=n_;clear hb hbox hg)|((with_reducible refine gate_dst (N:=5) rfl ?_);refine bx_ (N:=5) (cs:=#[I L a2]) (t:=3) ?_;intro gb477 hg w6 hbox hb;have n_:=an_ (blk_below (pk_ BK476.out) hb)<|an_ (below_step (pB_ HB.out) hb)<|an_ (hbox)<|an_ (bg_ hg (pB_ HB.out):w.heap.size≤gb477)<|an_ (bg_ hg (pB_ HB.out):w.heap.size≤gb477)<|an_ (nl_ hg (pk_ BK476.out):gb476≠gb477)<|D (by rw [hg];exact Nat.ne_of_gt (blk_lt (pk_ BK476.out)):gb477≠gb476);clear BK476 HB;obtain ⟨BK476,HB,BK477,GW477,GE477,NB476_477,NB477_476⟩:=n_;clear hb hbox hg)|((with_reducible refine gate_dst (N:=6) rfl ?_);refine bx_ (N:=6) (cs:=#[I L 0,I L 0,I L 0,I L 0,Y none 0 0,Y none 0 0]) (t:=37) ?_;intro gb478 hg w7 hbox hb;have n_:=an_ (blk_below (pk_ BK476.out) hb)<|an_ (blk_below (pk_ BK477.out) hb)<|an_ (below_step (pB_ HB.out) hb)<|an_ (hbox)<|an_ (bg_ hg (pB_ HB.out):w.heap.size≤gb478)<|an_ (bg_ hg (pB_ HB.out):w.heap.size≤gb478)<|an_ (nl_ hg (pk_ BK476.out):gb476≠gb478)<|an_ (ng_ hg (pk_ BK476.out):gb478≠gb476)<|an_ (nl_ hg (pk_ BK477.out):gb477≠gb478)<|D (by rw [hg];exact Nat.ne_of_gt (blk_lt (pk_ BK477.out)):gb478≠gb477);clear BK476 BK477 HB;obtain ⟨BK476,BK477,HB,BK478,GW478,GE478,NB476_478,NB478_476,NB477_478,NB478_477⟩:=n_;clear hb hbox hg;(try have:=NB476_477.out);(try have:=NB477_476.out);(try have:=NB476_478.out);(try have:=NB478_476.out);have hcz10_0:=cells6 BK476.out)|((with_reducible refine gate_callee (f:=19) rfl ?_);refine goesL_ (some 15) rfl rfl Try.func19 (by kernel_rfl) rfl #[.agg #[I L a0_0,I L a0_1,I L a0_2,I L a0_3,Y A0_4 l0_4.length c0_4,Y A0_5 l0_5.length c0_5],I L a1,.func (.func 20) #[] #[.pointer (some ⟨gb477,0,none⟩)]] rfl Z14 ?_;(with_reducible refine (impl_Tree_change.calls k a0_0 a0_1 a0_2 a0_3 _ _ l0_4 _ _ l0_5 a1 (fun z0_ z1_ z2_ z3_ z4_=>impl_TreeShed_1.f k z0_ z1_ z2_ z3_ z4_ a2) 20 #[.pointer (some ⟨gb477,0,none⟩)] t479 t480 t481 t482 t483 t486 t489 t490 _ ?side1 ?side2 ?side3 ?side4 ?side5 ?side6 A4.out).mono ?_);(case side1=>exact pC_ (Kd.C_below HR0_4.out HB.out));(case side2=>exact HC0_4.out);(case side3=>exact pC_ (Kd.C_below HR0_5.out HB.out));(case side4=>exact HC0_5.out);(case side5=>exact ⟨⟨_,Try.func20,by kernel_rfl,rfl⟩⟩);(case side6=>refine ⟨?_⟩;intro a900_0 a900_1 a900_2 a900_3 A900_4 c900_4 l900_4 rr0_ rr1_ rr2_ rr3_ rr4_ rr5_ W_ hW_ hr900_4 hc900_4 h_;refine calls_of_args (args':=#[.agg #[I L a900_0,I L a900_1,I L a900_2,I L a900_3,Y A900_4 l900_4.length c900_4],.pointer (some ⟨gb477,0,none⟩)]) (by simp) ?_;refine (impl_TreeShed_1.calls k a900_0 a900_1 a900_2 a900_3 A900_4 c900_4 l900_4 gb477 a2 rr0_ rr1_ rr2_ rr3_ rr4_ rr5_ W_ hr900_4 hc900_4 (blk_below (pk_ BK477.out) hW_) h_).mono ?_;rintro e w' ⟨vv4_,rfl,ho4_,hd_⟩;exact ⟨vv4_,rfl,ho4_,hd_⟩);rintro e w11 ⟨v484,v487,rfl,ho0,ho1,hb⟩;refine ⟨_,rfl,?_⟩;have n_:=an_ (Kd.R_lower ho0 (below_size (pB_ HB.out)))<|an_ (Kd.S_lower ho1 (below_size (pB_ HB.out)))<|an_ (blk_below (pk_ BK476.out) hb)<|an_ (blk_below (pk_ BK477.out) hb)<|an_ (blk_below (pk_ BK478.out) hb)<|D (below_step (pB_ HB.out) hb);clear BK476 BK477 BK478 HB;obtain ⟨HO485,HO488,BK476,BK477,BK478,HB⟩:=n_;(try clear hb);(try clear ho0);(try clear ho1))|((with_reducible refine gate_dst (N:=8) rfl ?_);refine bx_ (N:=8) (cs:=#[I L 0,I L 0,I L 0,I L 0,Y none 0 0,Y none 0 0]) (t:=37) ?_;intro gb491 hg w12 hbox hb;have n_:=an_ (Kd.R_below (pR_ HO485.out) hb)<|an_ (Kd.S_below (pS_ HO488.out) hb)<|an_ (blk_below (pk_ BK476.out) hb)<|an_ (blk_below (pk_ BK477.out) hb)<|an_ (blk_below (pk_ BK478.out) hb)<|an_ (below_step (pB_ HB.out) hb)<|an_ (hbox)<|an_ (bg_ hg (pB_ HB.out):w.heap.size≤gb491)<|an_ (bg_ hg (pB_ HB.out):w.heap.size≤gb491)<|an_ (nl_ hg (pk_ BK476.out):gb476≠gb491)<|an_ (ng_ hg (pk_ BK476.out):gb491≠gb476)<|an_ (nl_ hg (pk_ BK477.out):gb477≠gb491)<|an_ (ng_ hg (pk_ BK477.out):gb491≠gb477)<|an_ (nl_ hg (pk_ BK478.out):gb478≠gb491)<|D (by rw [hg];exact Nat.ne_of_gt (blk_lt (pk_ BK478.out)):gb491≠gb478);clear HO485 HO488 BK476 BK477 BK478 HB;obtain ⟨HO485,HO488,BK476,BK477,BK478,HB,BK491,GW491,GE491,NB476_491,NB491_476,NB477_491,NB491_477,NB478_491,NB491_478⟩:=n_;clear hb hbox hg;(try have:=NB491_476.out);(try have:=NB476_491.out);(try have:=NB491_477.out);(try have:=NB477_491.out);(try have:=NB491_478.out);(try have:=NB478_491.out);have hcz16_0:=cells6 BK491.out;obtain ⟨Ao17,co17,eo17⟩:=Kd.R_slice HO485.out;subst eo17;obtain ⟨Ao18,co18,eo18⟩:=Kd.S_slice HO488.out;subst eo18;(try have:=NB478_477.out);(try have:=NB477_478.out);have hcz20_0:=cells6 BK478.out))
 refine bodyPost_ret (results_ct rfl _ _ gb478 37 #[I L t479,I L t480,I L t481,I L t482,Y Ao17 t483.length co17,Y Ao18 t486.length co18] (0,0) _ rfl (by exact pP_ BK478.out) Try.underlying37 rfl (by kernel_rfl)) rfl ?_
 exact ⟨_,_,er_,by (with_reducible repeat (first|apply Kd.R_alloc|apply Kd.R_drewN|apply Kd.R_drew));exact Kd.R_mono (fr_ (fr_ (fr_ (fr_ (fr_ (fr_ (Kd.R_far (p:=⟨gb491,5,none⟩) (Kd.R_far (p:=⟨gb491,4,none⟩) (Kd.R_far (p:=⟨gb491,3,none⟩) (Kd.R_far (p:=⟨gb491,2,none⟩) (Kd.R_far (p:=⟨gb491,1,none⟩) (Kd.R_far (p:=⟨gb491,0,none⟩) (Kd.R_types (Kd.R_types HO485.out BK491.out (by decide)) BK478.out (by decide)) (fun _ hk=>hk.1.2) (I L t479)) (fun _ hk=>hk.1.2) (I L t480)) (fun _ hk=>hk.1.2) (I L t481)) (fun _ hk=>hk.1.2) (I L t482)) (fun _ hk=>hk.1.2) (Y Ao17 t483.length co17)) (fun _ hk=>hk.1.2) (Y Ao18 t486.length co18)) 0 (I L t479)) 1 (I L t480)) 2 (I L t481)) 3 (I L t482)) 4 (Y Ao17 t483.length co17)) 5 (Y Ao18 t486.length co18)) (fun _ hk=>trivial),by (with_reducible repeat (first|apply Kd.S_alloc|apply Kd.S_drewN|apply Kd.S_drew));exact Kd.S_mono (Kd.S_far (p:=⟨gb478,5,none⟩) (Kd.S_far (p:=⟨gb478,4,none⟩) (Kd.S_far (p:=⟨gb478,3,none⟩) (Kd.S_far (p:=⟨gb478,2,none⟩) (Kd.S_far (p:=⟨gb478,1,none⟩) (Kd.S_far (p:=⟨gb478,0,none⟩) (Kd.S_far (p:=⟨gb491,5,none⟩) (Kd.S_far (p:=⟨gb491,4,none⟩) (Kd.S_far (p:=⟨gb491,3,none⟩) (Kd.S_far (p:=⟨gb491,2,none⟩) (Kd.S_far (p:=⟨gb491,1,none⟩) (Kd.S_far (p:=⟨gb491,0,none⟩) (Kd.S_types (Kd.S_types HO488.out BK491.out (by decide)) BK478.out (by decide)) (fun _ hk=>hk.1.2) (I L t479)) (fun _ hk=>hk.1.2) (I L t480)) (fun _ hk=>hk.1.2) (I L t481)) (fun _ hk=>hk.1.2) (I L t482)) (fun _ hk=>hk.1.2) (Y Ao17 t483.length co17)) (fun _ hk=>hk.1.2) (Y Ao18 t486.length co18)) (fun _ hk=>hk.2) (I L t479)) (fun _ hk=>hk.2) (I L t480)) (fun _ hk=>hk.2) (I L t481)) (fun _ hk=>hk.2) (I L t482)) (fun _ hk=>hk.2) (Y Ao17 t483.length co17)) (fun _ hk=>hk.2) (Y Ao18 t486.length co18)) (fun _ hk=>hk.1.1),pB_ HB.out⟩

/-! ### laws_eqVec: function 46 -/
def laws_eqVec.f (a0_0 a0_1 a0_2 a1_0 a1_1 a1_2 : Int) : Option (Bool) := if a0_0 = a1_0 then (if a0_1 = a1_1 then (if a0_2 = a1_2 then (some true) else (some false)) else (some false)) else (some false)
set_option maxHeartbeats 8000000 in
set_option maxRecDepth 100000 in
theorem laws_eqVec.calls (a0_0 a0_1 a0_2 a1_0 a1_1 a1_2 : Int) (r : Bool) (w : World) (h : laws_eqVec.f a0_0 a0_1 a0_2 a1_0 a1_1 a1_2 = some r) :
  Calls Try.prog 46 #[.agg #[I L a0_0,I L a0_1,I L a0_2],.agg #[I L a1_0,I L a1_1,I L a1_2]] w fun e w'=>e=.returned (.bool r)∧Below w.heap.size w w':=by
 have hu31 := Try.underlying31
 have HB := D (Below.refl w.heap.size w)
 have H : (if a0_0 = a1_0 then (if a0_1 = a1_1 then (if a0_2 = a1_2 then (some true) else (some false)) else (some false)) else (some false)) = some r := h
 clear h
 have HU3 := D H
 clear H
 go_enter Try.func46, Try.ntmps46
 go_upto_if 9 with (first|((with_reducible refine gate_dst (N:=2) rfl ?_);refine bx_ (N:=2) (cs:=#[I L a0_0,I L a0_1,I L a0_2]) (t:=31) ?_;intro gb492 hg w4 hbox hb;have n_:=an_ (below_step (pB_ HB.out) hb)<|an_ (hbox)<|an_ (bg_ hg (pB_ HB.out):w.heap.size≤gb492)<|D (bg_ hg (pB_ HB.out):w.heap.size≤gb492);clear HB;obtain ⟨HB,BK492,GW492,GE492⟩:=n_;clear hb hbox hg)|((with_reducible refine gate_dst (N:=3) rfl ?_);refine bx_ (N:=3) (cs:=#[I L a1_0,I L a1_1,I L a1_2]) (t:=31) ?_;intro gb493 hg w5 hbox hb;have n_:=an_ (blk_below (pk_ BK492.out) hb)<|an_ (below_step (pB_ HB.out) hb)<|an_ (hbox)<|an_ (bg_ hg (pB_ HB.out):w.heap.size≤gb493)<|an_ (bg_ hg (pB_ HB.out):w.heap.size≤gb493)<|an_ (nl_ hg (pk_ BK492.out):gb492≠gb493)<|D (by rw [hg];exact Nat.ne_of_gt (blk_lt (pk_ BK492.out)):gb493≠gb492);clear BK492 HB;obtain ⟨BK492,HB,BK493,GW493,GE493,NB492_493,NB493_492⟩:=n_;clear hb hbox hg;(try have:=NB492_493.out);(try have:=NB493_492.out);have hcz7_0:=cells3 BK492.out;have hcz8_0:=cells3 BK493.out))
 have H := HU3.out
 clear HU3
 by_cases c9 : a0_0 = a1_0
 ·rw [if_pos c9] at H
  have c9b0:(a0_0 == a1_0)=true:=beq_iff_eq.mpr c9;have c9b1:(a0_0 != a1_0)=false:=bne_eq_false_iff_eq.mpr c9;clear c9;refine rw_ c9b0 ?_
  by_cases c10 : a0_1 = a1_1
  ·rw [if_pos c10] at H
   have c10b0 : (a0_1 == a1_1) = true := beq_iff_eq.mpr c10; have c10b1 : (a0_1 != a1_1) = false := bne_eq_false_iff_eq.mpr c10; clear c10
   by_cases c11 : a0_2 = a1_2
   ·rw [if_pos c11] at H
    have c11b0:(a0_2 == a1_2)=true:=beq_iff_eq.mpr c11;have c11b1:(a0_2 != a1_2)=false:=bne_eq_false_iff_eq.mpr c11;clear c11;obtain rfl:=Option.some.inj H;(try have:=NB492_493.out);(try have:=NB493_492.out);have hcz13_0:=cells3 BK492.out;have hcz14_0:=cells3 BK493.out
    go_wp2
    go_ret; exact ⟨er_, pB_ HB.out⟩
   ·rw [if_neg c11] at H
    have c11b0:(a0_2 == a1_2)=false:=beq_eq_false_iff_ne.mpr c11;have c11b1:(a0_2 != a1_2)=true:=bne_iff_ne.mpr c11;obtain rfl:=Option.some.inj H;(try have:=NB492_493.out);(try have:=NB493_492.out);have hcz16_0:=cells3 BK492.out;have hcz17_0:=cells3 BK493.out
    go_wp2
    go_ret; exact ⟨er_, pB_ HB.out⟩
  ·rw [if_neg c10] at H
   have c10b0:(a0_1 == a1_1)=false:=beq_eq_false_iff_ne.mpr c10;have c10b1:(a0_1 != a1_1)=true:=bne_iff_ne.mpr c10;obtain rfl:=Option.some.inj H;(try have:=NB492_493.out);(try have:=NB493_492.out);have hcz19_0:=cells3 BK492.out;have hcz20_0:=cells3 BK493.out
   go_wp2
   go_ret; exact ⟨er_, pB_ HB.out⟩
 ·rw [if_neg c9] at H
  have c9b0:(a0_0 == a1_0)=false:=beq_eq_false_iff_ne.mpr c9;have c9b1:(a0_0 != a1_0)=true:=bne_iff_ne.mpr c9;refine rw_ c9b0 ?_;obtain rfl:=Option.some.inj H
  go_wp2
  go_ret; exact ⟨er_, pB_ HB.out⟩

/-! ### laws_eqKid: function 64 -/
def laws_eqKid.f (a0_0 a0_1 : Int) (a0_2 : Bool) (a0_3 a0_4 a0_5 a1_0 a1_1 : Int) (a1_2 : Bool) (a1_3 a1_4 a1_5 : Int) : Option (Bool) := if a0_0 = a1_0 then (if a0_1 = a1_1 then (if (a0_2 != a1_2) = true then (some false) else ((laws_eqVec.f a0_3 a0_4 a0_5 a1_3 a1_4 a1_5).bind fun t496 => (if t496 = true then (some true) else (some false)))) else (some false)) else (some false)
set_option maxHeartbeats 8000000 in
set_option maxRecDepth 100000 in
theorem laws_eqKid.calls (a0_0 a0_1 : Int) (a0_2 : Bool) (a0_3 a0_4 a0_5 a1_0 a1_1 : Int) (a1_2 : Bool) (a1_3 a1_4 a1_5 : Int) (r : Bool) (w : World) (h : laws_eqKid.f a0_0 a0_1 a0_2 a0_3 a0_4 a0_5 a1_0 a1_1 a1_2 a1_3 a1_4 a1_5 = some r) :
  Calls Try.prog 64 #[.agg #[I L a0_0,I L a0_1,.bool a0_2,I L a0_3,I L a0_4,I L a0_5],.agg #[I L a1_0,I L a1_1,.bool a1_2,I L a1_3,I L a1_4,I L a1_5]] w fun e w'=>e=.returned (.bool r)∧Below w.heap.size w w':=by
 have hu67 := Try.underlying67
 have hu31 := Try.underlying31
 have HB := D (Below.refl w.heap.size w)
 have H:(if a0_0=a1_0 then (if a0_1=a1_1 then (if (a0_2 != a1_2)=true then (some false) else ((laws_eqVec.f a0_3 a0_4 a0_5 a1_3 a1_4 a1_5).bind fun t496=>(if t496=true then (some true) else (some false)))) else (some false)) else (some false))=some r:=h
 clear h
 have HU3 := D H
 clear H
 go_enter Try.func64, Try.ntmps64
 go_upto_if 9 with (first|((with_reducible refine gate_dst (N:=2) rfl ?_);refine bx_ (N:=2) (cs:=#[I L a0_0,I L a0_1,.bool a0_2,I L a0_3,I L a0_4,I L a0_5]) (t:=67) ?_;intro gb494 hg w4 hbox hb;have n_:=an_ (below_step (pB_ HB.out) hb)<|an_ (hbox)<|an_ (bg_ hg (pB_ HB.out):w.heap.size≤gb494)<|D (bg_ hg (pB_ HB.out):w.heap.size≤gb494);clear HB;obtain ⟨HB,BK494,GW494,GE494⟩:=n_;clear hb hbox hg)|((with_reducible refine gate_dst (N:=3) rfl ?_);refine bx_ (N:=3) (cs:=#[I L a1_0,I L a1_1,.bool a1_2,I L a1_3,I L a1_4,I L a1_5]) (t:=67) ?_;intro gb495 hg w5 hbox hb;have n_:=an_ (blk_below (pk_ BK494.out) hb)<|an_ (below_step (pB_ HB.out) hb)<|an_ (hbox)<|an_ (bg_ hg (pB_ HB.out):w.heap.size≤gb495)<|an_ (bg_ hg (pB_ HB.out):w.heap.size≤gb495)<|an_ (nl_ hg (pk_ BK494.out):gb494≠gb495)<|D (by rw [hg];exact Nat.ne_of_gt (blk_lt (pk_ BK494.out)):gb495≠gb494);clear BK494 HB;obtain ⟨BK494,HB,BK495,GW495,GE495,NB494_495,NB495_494⟩:=n_;clear hb hbox hg;(try have:=NB494_495.out);(try have:=NB495_494.out);have hcz7_0:=cells6 BK494.out;have hcz8_0:=cells6 BK495.out))
 have H := HU3.out
 clear HU3
 by_cases c9 : a0_0 = a1_0
 ·rw [if_pos c9] at H
  have c9b0:(a0_0 == a1_0)=true:=beq_iff_eq.mpr c9;have c9b1:(a0_0 != a1_0)=false:=bne_eq_false_iff_eq.mpr c9;clear c9;refine rw_ c9b0 ?_
  by_cases c10 : a0_1 = a1_1
  ·rw [if_pos c10] at H
   have c10b0 : (a0_1 == a1_1) = true := beq_iff_eq.mpr c10; have c10b1 : (a0_1 != a1_1) = false := bne_eq_false_iff_eq.mpr c10; clear c10
   by_cases c11 : (a0_2 != a1_2) = true
   ·rw [if_pos c11] at H
    have c11b0:(a0_2 != a1_2)=true:=c11;(try (have c11b1:decide (a0_2=a1_2)=false:=by simpa using c11));(try (have c11b2:(a0_2 == a1_2)=false:=by simpa using c11));(try (have c11b3:¬ (a0_2=a1_2):=by simpa using c11));clear c11;obtain rfl:=Option.some.inj H;(try have:=NB494_495.out);(try have:=NB495_494.out);have hcz13_0:=cells6 BK494.out;have hcz14_0:=cells6 BK495.out
    go_wp2
    go_ret; exact ⟨er_, pB_ HB.out⟩
   ·rw [if_neg c11] at H
    have c11b0 : (a0_2 != a1_2) = false := by simpa using c11
    (try (have c11b1:decide (a0_2=a1_2)=true:=by simpa using c11));(try (have c11b2:(a0_2 == a1_2)=true:=by simpa using c11));clear c11;obtain ⟨t496,A150,H⟩:=bs_.mp H;(try dsimp only at H);have A15:=D A150;clear A150;have HU16:=D H;clear H;(try have:=NB494_495.out);(try have:=NB495_494.out);have hcz18_0:=cells6 BK494.out;have hcz19_0:=cells6 BK495.out
    go_upto_if 25 with (first|((with_reducible refine gate_callee (f:=46) rfl ?_);refine goesL_ (some 24) rfl rfl Try.func46 (by kernel_rfl) rfl #[.agg #[I L a0_3,I L a0_4,I L a0_5],.agg #[I L a1_3,I L a1_4,I L a1_5]] rfl Z14 ?_;(with_reducible refine (laws_eqVec.calls a0_3 a0_4 a0_5 a1_3 a1_4 a1_5 t496 _ A15.out).mono ?_);rintro e w20 ⟨rfl,hb⟩;refine ⟨_,rfl,?_⟩;have n_:=an_ (blk_below (pk_ BK494.out) hb)<|an_ (blk_below (pk_ BK495.out) hb)<|D (below_step (pB_ HB.out) hb);clear BK494 BK495 HB;obtain ⟨BK494,BK495,HB⟩:=n_;(try clear hb)))
    have H := HU16.out; clear HU16
    by_cases c21 : t496 = true
    ·subst c21
     rw [if_pos rfl] at H; obtain rfl := Option.some.inj H
     go_wp2
     go_ret; exact ⟨er_, pB_ HB.out⟩
    ·replace c21 := Bool.eq_false_iff.mpr c21
     subst c21; rw [if_neg (show ¬ (false = true) by decide)] at H; obtain rfl := Option.some.inj H
     go_wp2
     go_ret; exact ⟨er_, pB_ HB.out⟩
  ·rw [if_neg c10] at H
   have c10b0:(a0_1 == a1_1)=false:=beq_eq_false_iff_ne.mpr c10;have c10b1:(a0_1 != a1_1)=true:=bne_iff_ne.mpr c10;obtain rfl:=Option.some.inj H;(try have:=NB494_495.out);(try have:=NB495_494.out);have hcz23_0:=cells6 BK494.out;have hcz24_0:=cells6 BK495.out
   go_wp2
   go_ret; exact ⟨er_, pB_ HB.out⟩
 ·rw [if_neg c9] at H
  have c9b0:(a0_0 == a1_0)=false:=beq_eq_false_iff_ne.mpr c9;have c9b1:(a0_0 != a1_0)=true:=bne_iff_ne.mpr c9;refine rw_ c9b0 ?_;obtain rfl:=Option.some.inj H
  go_wp2
  go_ret; exact ⟨er_, pB_ HB.out⟩

end Go.Proofs.Ytmloggnobgikdab.PFnExactTreeShed
