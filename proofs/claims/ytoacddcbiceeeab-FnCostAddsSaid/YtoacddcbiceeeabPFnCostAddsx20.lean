-- by a program of this session's, over the kit's words
import Derived.Test.YtoacddcbiceeeabPZFnCostAdds
import Derived.Test.YtoacddcbiceeeabPFnCostAddsx0
import Derived.Test.YtoacddcbiceeeabPFnCostAddsx15
import Derived.Test.YtoacddcbiceeeabPFnCostAddsx19
namespace Go.Proofs.Ytoacddcbiceeeab.PFnCostAdds
open Go.RowKit Go.Proofs.YtoacddcbiceeeabW.PrintWords Go.Proofs.YtoacddcbiceeeabW.PrintLast Go.Proofs.YtoacddcbiceeeabW.PrintMore Go.Proofs.YtoacddcbiceeeabV Go.Proofs.Ytoacddcbiceeeab.ZFnCostAdds
open Go.Value renaming int → I, slice → Y
open Go.IntKind renaming i64 → L
open Aside0 renaming mk → D
open Option renaming bind_eq_some_iff → bs_
attribute [local go_sem] max2_int min2_int max_two min_two max_three min_three max_four min_four   -- for this text's walks alone
set_option linter.unusedVariables false
set_option linter.unusedSimpArgs false

/-! ### impl_ChainOk_1: function 35 -/
def impl_ChainOk_1.f (k : Nat) (a0_0 a0_1 a0_2 a0_3 a0_4 a0_5 a0_6 a0_7 a0_8 a0_9 a0_10 a0_11 a0_12 a0_13 a0_14 a0_15 a0_16 : Int) : Option (Bool) := (impl_ModuleOk.f k a0_0 a0_1 a0_2 a0_3 a0_4 a0_5 a0_6 a0_7 a0_8 a0_9 a0_10 a0_11 a0_12 a0_13 a0_14 a0_15 a0_16).bind fun t678 => (some (!t678))
set_option maxHeartbeats 8000000 in
set_option maxRecDepth 100000 in
theorem impl_ChainOk_1.calls (k : Nat) (a0_0 a0_1 a0_2 a0_3 a0_4 a0_5 a0_6 a0_7 a0_8 a0_9 a0_10 a0_11 a0_12 a0_13 a0_14 a0_15 a0_16 : Int) (r : Bool) (w : World) (h : impl_ChainOk_1.f k a0_0 a0_1 a0_2 a0_3 a0_4 a0_5 a0_6 a0_7 a0_8 a0_9 a0_10 a0_11 a0_12 a0_13 a0_14 a0_15 a0_16 = some r) :
  Calls Try.prog 35 #[.agg #[I L a0_0,I L a0_1,I L a0_2,I L a0_3,I L a0_4,I L a0_5,I L a0_6,I L a0_7,I L a0_8,I L a0_9,I L a0_10,I L a0_11,I L a0_12,I L a0_13,I L a0_14,I L a0_15,I L a0_16]] w fun e w'=>e=.returned (.bool r)∧Below w.heap.size w w':=by
 have hu36 := Try.underlying36
 have HB := D (Below.refl w.heap.size w)
 have H : ((impl_ModuleOk.f k a0_0 a0_1 a0_2 a0_3 a0_4 a0_5 a0_6 a0_7 a0_8 a0_9 a0_10 a0_11 a0_12 a0_13 a0_14 a0_15 a0_16).bind fun t678 => (some (!t678))) = some r := h
 clear h
 obtain ⟨t678, A20, H⟩ := bs_.mp H
 (try dsimp only at H)
 have A2 := D A20
 clear A20
 obtain rfl := Option.some.inj H
 go_enter Try.func35, Try.ntmps35
 go_wp2_with (first|((with_reducible refine gst_ 36 rfl ?_);refine sa36_ ?_)|((with_reducible refine gld_ 36 rfl ?_);refine la36_ ?_)|((with_reducible refine gate_dst (N:=1) rfl ?_);refine bx_ (N:=1) (cs:=#[I L a0_0,I L a0_1,I L a0_2,I L a0_3,I L a0_4,I L a0_5,I L a0_6,I L a0_7,I L a0_8,I L a0_9,I L a0_10,I L a0_11,I L a0_12,I L a0_13,I L a0_14,I L a0_15,I L a0_16]) (t:=36) ?_;intro gb677 hg w3 hbox hb;have n_:=an_ (below_step (pB_ HB.out) hb)<|an_ (hbox)<|an_ (bg_ hg (pB_ HB.out):w.heap.size≤gb677)<|D (bg_ hg (pB_ HB.out):w.heap.size≤gb677);clear HB;obtain ⟨HB,BK677,GW677,GE677⟩:=n_;clear hb hbox hg)|((with_reducible refine gate_callee (f:=36) rfl ?_);refine goesL_ (some 4) rfl rfl Try.func36 (by kernel_rfl) rfl #[.agg #[I L a0_0,I L a0_1,I L a0_2,I L a0_3,I L a0_4,I L a0_5,I L a0_6,I L a0_7,I L a0_8,I L a0_9,I L a0_10,I L a0_11,I L a0_12,I L a0_13,I L a0_14,I L a0_15,I L a0_16]] rfl Z15 ?_;(with_reducible refine (impl_ModuleOk.calls k a0_0 a0_1 a0_2 a0_3 a0_4 a0_5 a0_6 a0_7 a0_8 a0_9 a0_10 a0_11 a0_12 a0_13 a0_14 a0_15 a0_16 t678 _ A2.out).mono ?_);rintro e w5 ⟨rfl,hb⟩;refine ⟨_,rfl,?_⟩;have n_:=an_ (blk_below (pk_ BK677.out) hb)<|D (below_step (pB_ HB.out) hb);clear BK677 HB;obtain ⟨BK677,HB⟩:=n_;(try clear hb)))
 go_ret
 exact ⟨er_, pB_ HB.out⟩

/-! ### impl_ChainOk: function 20 -/
def impl_ChainOk.f (k : Nat) (l0 : List (S36)) : Option (Bool) := if (l0.length : Int) ≤ 8 then ((slices_ContainsFunc_impl_Module_impl_Module.f k l0 (fun z0_ z1_ z2_ z3_ z4_ z5_ z6_ z7_ z8_ z9_ z10_ z11_ z12_ z13_ z14_ z15_ z16_ => impl_ChainOk_1.f k z0_ z1_ z2_ z3_ z4_ z5_ z6_ z7_ z8_ z9_ z10_ z11_ z12_ z13_ z14_ z15_ z16_)).bind fun t679 => (some (!t679))) else (some false)
set_option maxHeartbeats 8000000 in
set_option maxRecDepth 100000 in
theorem impl_ChainOk.calls (k : Nat) (A0 : Option Addr) (c0 : Nat) (l0 : List (S36)) (r : Bool) (w : World) (hr0 : Kd.C k36 w A0 l0.length l0) (hc0 : l0.length ≤ c0) (h : impl_ChainOk.f k l0 = some r) :
  Calls Try.prog 20 #[Y A0 l0.length c0] w fun e w' => e = .returned (.bool r) ∧ Below w.heap.size w w' := by
 have HR0 := D hr0
 have HC0 := D hc0
 clear hr0 hc0
 have HB := D (Below.refl w.heap.size w)
 have H:(if (l0.length:Int)≤8 then ((slices_ContainsFunc_impl_Module_impl_Module.f k l0 (fun z0_ z1_ z2_ z3_ z4_ z5_ z6_ z7_ z8_ z9_ z10_ z11_ z12_ z13_ z14_ z15_ z16_=>impl_ChainOk_1.f k z0_ z1_ z2_ z3_ z4_ z5_ z6_ z7_ z8_ z9_ z10_ z11_ z12_ z13_ z14_ z15_ z16_)).bind fun t679=>(some (!t679))) else (some false))=some r:=h
 clear h
 by_cases c2 : (l0.length : Int) ≤ 8
 ·rw [if_pos c2] at H
  have c2b0:decide ((l0.length:Int)≤8)=true:=decide_eq_true c2;have c2b1:decide (l0.length≤8)=true:=decide_eq_true (by omega);clear c2;obtain ⟨t679,A30,H⟩:=bs_.mp H;(try dsimp only at H);have A3:=D A30;clear A30;obtain rfl:=Option.some.inj H;go_enter Try.func20,Try.ntmps20
  go_wp2_with (first|(go_at_call 34;(with_reducible refine (slices_ContainsFunc_impl_Module_impl_Module.calls k _ _ l0 (fun z0_ z1_ z2_ z3_ z4_ z5_ z6_ z7_ z8_ z9_ z10_ z11_ z12_ z13_ z14_ z15_ z16_=>impl_ChainOk_1.f k z0_ z1_ z2_ z3_ z4_ z5_ z6_ z7_ z8_ z9_ z10_ z11_ z12_ z13_ z14_ z15_ z16_) 35 #[] t679 _ ?side1 ?side2 ?side3 ?side4 A3.out).mono ?_);(case side1=>exact pC_ HR0.out);(case side2=>exact HC0.out);(case side3=>exact ⟨⟨_,Try.func35,by kernel_rfl,rfl⟩⟩);(case side4=>refine ⟨?_⟩;intro a900_0 a900_1 a900_2 a900_3 a900_4 a900_5 a900_6 a900_7 a900_8 a900_9 a900_10 a900_11 a900_12 a900_13 a900_14 a900_15 a900_16 rr0_ W_ hW_ h_;refine calls_of_args (args':=#[.agg #[I L a900_0,I L a900_1,I L a900_2,I L a900_3,I L a900_4,I L a900_5,I L a900_6,I L a900_7,I L a900_8,I L a900_9,I L a900_10,I L a900_11,I L a900_12,I L a900_13,I L a900_14,I L a900_15,I L a900_16]]) (by simp) ?_;refine (impl_ChainOk_1.calls k a900_0 a900_1 a900_2 a900_3 a900_4 a900_5 a900_6 a900_7 a900_8 a900_9 a900_10 a900_11 a900_12 a900_13 a900_14 a900_15 a900_16  rr0_ W_ h_).mono ?_;rintro e w' ⟨rfl,hd_⟩;exact ⟨rfl,hd_⟩);rintro e w4 ⟨rfl,hb⟩;have n0_:=D (below_step (pB_ HB.out) hb);clear HB;have HB:=n0_;clear n0_;(try clear hb)))
  go_ret; exact ⟨er_, pB_ HB.out⟩
 ·rw [if_neg c2] at H
  have c2b0:decide ((l0.length:Int)≤8)=false:=decide_eq_false c2;have c2b1:decide (l0.length≤8)=false:=decide_eq_false (by omega);clear c2;obtain rfl:=Option.some.inj H;go_enter Try.func20,Try.ntmps20
  go_wp2
  go_ret; exact ⟨er_, pB_ HB.out⟩

/-! ### impl_isSize: function 21 -/
def impl_isSize.f (a0 : Int) : Option (Bool) := (impl_within.f a0 0 1600).bind fun t680 => (some t680)
set_option maxHeartbeats 8000000 in
set_option maxRecDepth 100000 in
theorem impl_isSize.calls (a0 : Int) (r : Bool) (w : World) (h : impl_isSize.f a0 = some r) :
  Calls Try.prog 21 #[I L a0] w fun e w' => e = .returned (.bool r) ∧ Drawn0 w w' := by
 have H : ((impl_within.f a0 0 1600).bind fun t680 => (some t680)) = some r := h
 clear h
 obtain ⟨t680, A20, H⟩ := bs_.mp H
 (try dsimp only at H)
 have A2 := D A20
 clear A20
 obtain rfl := Option.some.inj H
 go_enter Try.func21, Try.ntmps21
 go_wp2_with (first|((with_reducible refine gate_callee (f:=37) rfl ?_);refine goesL_ (some 4) rfl rfl Try.func37 (by kernel_rfl) rfl #[I L a0,I L 0,I L 1600] rfl Z15 ?_;(with_reducible refine (impl_within.calls a0 0 1600 t680 _ A2.out).mono ?_);rintro e w' ⟨rfl,⟨nd,rfl⟩⟩;refine ⟨_,rfl,?_⟩))
 go_ret
 exact ⟨by first | rfl | (simp; done) | (simp [*]; done), by repeat (first | exact Drawn0.refl _ | apply Drawn0.step)⟩

/-! ### impl_both: function 38 -/
def impl_both.f (a0_0 a0_1 a0_2 a1_0 a1_1 a1_2 : Int) (a2 : (Int → Int → Option (Int))) : Option (Int × Int × Int) := (a2 a0_0 a1_0).bind fun t684 => ((a2 a0_1 a1_1).bind fun t685 => ((a2 a0_2 a1_2).bind fun t686 => (some (t684, t685, t686))))
def impl_both.T1 : Bool × List (List Nat × List Nat) := (true, [([], []), ([], []), ([1], [1]), ([], []), ([3], [3]), ([0, 2, 4], [0, 2, 4]), ([], []), ([], []), ([7], [7]), ([], []), ([9], [9]), ([6, 8, 10, 5], [6, 8, 10]), ([], []), ([], []), ([13], [13]), ([], []), ([15], [15]), ([12, 14, 16, 11], [12, 14, 16]), ([5, 11, 17], [5, 11, 17]), ([18, 17, 0, 1, 2, 3, 4, 5, 6, 7, 8, 9, 10, 11, 12, 13, 14, 15, 16, 17, 18], [18])])
def impl_both.B1 : List Nat := [0, 0, 2, 0, 8, 31, 0, 0, 128, 0, 512, 2047, 0, 0, 8192, 0, 32768, 131071, 262143, 524287]
theorem impl_both.tab1 : rtab .any (opsOf Try.f38 1) = impl_both.T1 := by kernel_rfl
theorem impl_both.bits1 : waitsOk impl_both.T1.2 impl_both.B1 = true := by kernel_rfl
set_option maxHeartbeats 8000000 in
set_option maxRecDepth 100000 in
theorem impl_both.calls (a0_0 a0_1 a0_2 a1_0 a1_1 a1_2 : Int) (a2 : (Int → Int → Option (Int))) (fn2 : Nat) (cp2 : Array Value) (r1 r2 r3 : Int) (w : World) (hq2 : Aside0 (∃ F_, Try.prog.funcs[fn2]? = some F_ ∧ (F_.name == "runtime.NumGoroutine") = false ∧ F_.body.isSome = true)) (HP2_38 : Aside0 (∀ (a900 a901 rr0_ : Int) (W_ : World), Below w.heap.size w W_ → a2 a900 a901 = some rr0_ → Calls Try.prog fn2 (#[I L a900, I L a901] ++ cp2) W_ (fun e w' => e = .returned (I L rr0_) ∧ Below W_.heap.size W_ w'))) (h : impl_both.f a0_0 a0_1 a0_2 a1_0 a1_1 a1_2 a2 = some (r1, r2, r3)) :
  Calls Try.prog 38 #[.agg #[I L a0_0,I L a0_1,I L a0_2],.agg #[I L a1_0,I L a1_1,I L a1_2],.func (.func fn2) #[] cp2] w fun e w'=>e=.returned (.agg #[I L r1,I L r2,I L r3])∧Below w.heap.size w w':=by
 have hu29 := Try.underlying29
 have HB := D (Below.refl w.heap.size w)
 have H : ((a2 a0_0 a1_0).bind fun t684 => ((a2 a0_1 a1_1).bind fun t685 => ((a2 a0_2 a1_2).bind fun t686 => (some (t684, t685, t686))))) = some (r1, r2, r3) := h
 clear h
 obtain ⟨t684, A40, H⟩ := bs_.mp H
 (try dsimp only at H)
 have A4 := D A40
 clear A40
 obtain ⟨t685, A50, H⟩ := bs_.mp H
 (try dsimp only at H)
 have A5 := D A50
 clear A50
 obtain ⟨t686, A60, H⟩ := bs_.mp H
 (try dsimp only at H)
 have A6 := D A60
 clear A60
 simp only [Option.some.injEq, Prod.mk.injEq] at H
 obtain ⟨rfl, rfl, rfl⟩ := H
 go_enter Try.func38, Try.ntmps38
 try go_wp2_with (first|((with_reducible refine gate_dst (N:=3) rfl ?_);refine bx_ (N:=3) (cs:=#[I L a0_0,I L a0_1,I L a0_2]) (t:=29) ?_;intro gb681 hg w7 hbox hb;have n_:=an_ (below_step (pB_ HB.out) hb)<|an_ (hbox)<|an_ (bg_ hg (pB_ HB.out):w.heap.size≤gb681)<|D (bg_ hg (pB_ HB.out):w.heap.size≤gb681);clear HB;obtain ⟨HB,BK681,GW681,GE681⟩:=n_;clear hb hbox hg)|((with_reducible refine gate_dst (N:=4) rfl ?_);refine bx_ (N:=4) (cs:=#[I L a1_0,I L a1_1,I L a1_2]) (t:=29) ?_;intro gb682 hg w8 hbox hb;have n_:=an_ (blk_below (pk_ BK681.out) hb)<|an_ (below_step (pB_ HB.out) hb)<|an_ (hbox)<|an_ (bg_ hg (pB_ HB.out):w.heap.size≤gb682)<|an_ (bg_ hg (pB_ HB.out):w.heap.size≤gb682)<|an_ (nl_ hg (pk_ BK681.out):gb681≠gb682)<|D (by rw [hg];exact Nat.ne_of_gt (blk_lt (pk_ BK681.out)):gb682≠gb681);clear BK681 HB;obtain ⟨BK681,HB,BK682,GW682,GE682,NB681_682,NB682_681⟩:=n_;clear hb hbox hg)|((with_reducible refine gate_dst (N:=6) rfl ?_);refine bx_ (N:=6) (cs:=#[I L 0,I L 0,I L 0]) (t:=29) ?_;intro gb683 hg w9 hbox hb;have n_:=an_ (blk_below (pk_ BK681.out) hb)<|an_ (blk_below (pk_ BK682.out) hb)<|an_ (below_step (pB_ HB.out) hb)<|an_ (hbox)<|an_ (bg_ hg (pB_ HB.out):w.heap.size≤gb683)<|an_ (bg_ hg (pB_ HB.out):w.heap.size≤gb683)<|an_ (nl_ hg (pk_ BK681.out):gb681≠gb683)<|an_ (ng_ hg (pk_ BK681.out):gb683≠gb681)<|an_ (nl_ hg (pk_ BK682.out):gb682≠gb683)<|D (by rw [hg];exact Nat.ne_of_gt (blk_lt (pk_ BK682.out)):gb683≠gb682);clear BK681 BK682 HB;obtain ⟨BK681,BK682,HB,BK683,GW683,GE683,NB681_683,NB683_681,NB682_683,NB683_682⟩:=n_;clear hb hbox hg))
 have n_ := an_ (blk_drew BK681.out) <| an_ (blk_drew BK682.out) <| an_ (blk_drew BK683.out) <| D (below_drew1 HB.out)
 clear BK681 BK682 BK683 HB
 obtain ⟨BK681, BK682, BK683, HB⟩ := n_
 refine start_ (n:=20) (S:=fun w'=>w'.cell? ⟨gb681,0,none⟩=some (I L a0_0)∧w'.cell? ⟨gb681,1,none⟩=some (I L a0_1)∧w'.cell? ⟨gb681,2,none⟩=some (I L a0_2)∧w'.cell? ⟨gb682,0,none⟩=some (I L a1_0)∧w'.cell? ⟨gb682,1,none⟩=some (I L a1_1)∧w'.cell? ⟨gb682,2,none⟩=some (I L a1_2)) (ds:=[]) (bz 20 0) (by kernel_rfl) rfl (by kernel_rfl) (bk3_ BK681.out (be3_ BK682.out)) (fun hHeld=>?_);refine with_tabW impl_both.tab1 impl_both.bits1 (fun HT_ HW_=>?_)
 generalize w9.drew = w10 at BK681 BK682 BK683 HB hHeld ⊢
 refine pb_ 0 ?_
 refine pb_ 1 ?_
 refine pb_ 3 ?_
 refine pb_ 6 ?_
 refine pb_ 7 ?_
 refine pb_ 9 ?_
 refine pb_ 12 ?_
 refine pb_ 13 ?_
 refine pb_ 15 ?_
 refine tb_ 2 rfl rfl hHeld Z18 ?_
 refine tb_ 4 rfl rfl hHeld Z18 ?_
 refine tb_ 8 rfl rfl hHeld Z18 ?_
 refine tb_ 10 rfl rfl hHeld Z18 ?_
 refine tb_ 14 rfl rfl hHeld Z18 ?_
 refine tb_ 16 rfl rfl hHeld Z18 ?_
 refine oa_ 5 12 20 129023 HT_ (fun K hK => ?_)
 obtain ⟨_, hF1_, hF2_, hF3_⟩ := hq2.out
 refine goesV_ hF1_ hF2_ hF3_ #[I L a0_0, I L a1_0] (cp := cp2) (by rfl) rfl rfl Z23 Z15 ?_
 with_reducible refine (HP2_38.out a0_0 a1_0 t684 _ ?side1 A4.out).mono ?_
 (case side1 => exact pB_ HB.out)
 rintro e w11 ⟨rfl, hb⟩
 refine ⟨_, rfl, ?_⟩
 have n_ := an_ (blk_below (pk_ BK681.out) hb) <| an_ (blk_below (pk_ BK682.out) hb) <| an_ (blk_below (pk_ BK683.out) hb) <| D (below_step (pB_ HB.out) hb)
 clear BK681 BK682 BK683 HB
 obtain ⟨BK681, BK682, BK683, HB⟩ := n_
 (try clear hb)
 (try clear hb2)
 (try clear hk)
 (try clear hi)
 refine hK.out _ _ (bk3_ BK681.out (be3_ BK682.out)) (fun hHeld=>?_)
 clear hK K
 refine nx_ (N := some 12) ?_
 refine oa_ 11 18 20 131071 HT_ (fun K hK => ?_)
 obtain ⟨_, hF1_, hF2_, hF3_⟩ := hq2.out
 refine goesV_ hF1_ hF2_ hF3_ #[I L a0_1, I L a1_1] (cp := cp2) (by rfl) rfl rfl Z23 Z15 ?_
 with_reducible refine (HP2_38.out a0_1 a1_1 t685 _ ?side1 A5.out).mono ?_
 (case side1 => exact pB_ HB.out)
 rintro e w12 ⟨rfl, hb⟩
 refine ⟨_, rfl, ?_⟩
 have n_ := an_ (blk_below (pk_ BK681.out) hb) <| an_ (blk_below (pk_ BK682.out) hb) <| an_ (blk_below (pk_ BK683.out) hb) <| D (below_step (pB_ HB.out) hb)
 clear BK681 BK682 BK683 HB
 obtain ⟨BK681, BK682, BK683, HB⟩ := n_
 (try clear hb)
 (try clear hb2)
 (try clear hk)
 (try clear hi)
 refine hK.out _ _ (bk3_ BK681.out (be3_ BK682.out)) (fun hHeld=>?_)
 clear hK K
 refine nx_ (N := some 18) ?_
 refine oa_ 17 24 20 262143 HT_ (fun K hK => ?_)
 obtain ⟨_, hF1_, hF2_, hF3_⟩ := hq2.out
 refine goesV_ hF1_ hF2_ hF3_ #[I L a0_2, I L a1_2] (cp := cp2) (by rfl) rfl rfl Z23 Z15 ?_
 with_reducible refine (HP2_38.out a0_2 a1_2 t686 _ ?side1 A6.out).mono ?_
 (case side1 => exact pB_ HB.out)
 rintro e w13 ⟨rfl, hb⟩
 refine ⟨_, rfl, ?_⟩
 have n_ := an_ (blk_below (pk_ BK681.out) hb) <| an_ (blk_below (pk_ BK682.out) hb) <| an_ (blk_below (pk_ BK683.out) hb) <| D (below_step (pB_ HB.out) hb)
 clear BK681 BK682 BK683 HB
 obtain ⟨BK681, BK682, BK683, HB⟩ := n_
 (try clear hb)
 (try clear hb2)
 (try clear hk)
 (try clear hi)
 refine hK.out _ _ (bk3_ BK681.out (be3_ BK682.out)) (fun hHeld=>?_)
 clear hK K
 refine nx_ (N := some 24) ?_
 refine pb_ 18 ?_
 refine one_ (i := 19) (N := none) (bz 20 1048575) rfl rfl (one_of HT_.out (by kernel_rfl)) (by decide) (fun K hK => ?_)
 have hs14 : w13.cell? ⟨gb683, 0, none⟩ = some (I L 0) := (bc_ BK683.out 0)
 have hfs14 := blk_frozen BK683.out 0
 have hns14_0 := NB681_683.out
 have hns14_1 := NB682_683.out
 have hms14_0 := NB683_681.out
 have hms14_1 := NB683_682.out
 have hs15 : w13.cell? ⟨gb683, 1, none⟩ = some (I L 0) := (bc_ BK683.out 1)
 have hfs15 := blk_frozen BK683.out 1
 have hns15_0 := NB681_683.out
 have hns15_1 := NB682_683.out
 have hms15_0 := NB683_681.out
 have hms15_1 := NB683_682.out
 have hs16 : w13.cell? ⟨gb683, 2, none⟩ = some (I L 0) := (bc_ BK683.out 2)
 have hfs16 := blk_frozen BK683.out 2
 have hns16_0 := NB681_683.out
 have hns16_1 := NB682_683.out
 have hms16_0 := NB683_681.out
 have hms16_1 := NB683_682.out
 refine skip_ (w1 := ?_) (by rfl) rfl ?_ ?_
 rotate_left
 ·go_simp
  rfl
 refine hK.out _ _ ⟨(cF_ NB681_683.out (hHeld.1)),(cF_ NB681_683.out (hHeld.2.1)),(cF_ NB681_683.out (hHeld.2.2.1)),(cF_ NB682_683.out (hHeld.2.2.2.1)),(cF_ NB682_683.out (hHeld.2.2.2.2.1)),(cF_ NB682_683.out (hHeld.2.2.2.2.2))⟩ (fun hHeld=>?_)
 clear hK K
 refine done_ (done_of HT_.out (by kernel_rfl)) ?_
 try go_wp2
 refine bodyPost_ret (results_cell_row rfl _ _ gb683 29 #[I L t684,I L t685,I L t686] (0,0) _ rfl (by exact pP_ BK683.out) Try.underlying29 rfl (by kernel_rfl)) rfl ?_
 exact ⟨er_, pB_ HB.out⟩

/-! ### impl_Vec_plus_1: function 39 -/
def impl_Vec_plus_1.f (a0 a1 : Int) : Option (Int) := some (wrap64 (a0 + a1))
set_option maxHeartbeats 8000000 in
set_option maxRecDepth 100000 in
theorem impl_Vec_plus_1.calls (a0 a1 r : Int) (w : World) (h : impl_Vec_plus_1.f a0 a1 = some r) :
  Calls Try.prog 39 #[I L a0, I L a1] w fun e w' => e = .returned (I L r) ∧ Drawn0 w w' := by
 have H : (some (wrap64 (a0 + a1))) = some r := h
 clear h
 obtain rfl := Option.some.inj H
 go_enter Try.func39, Try.ntmps39
 go_wp2
 go_ret
 exact ⟨by first | rfl | (simp; done) | (simp [*]; done), by repeat (first | exact Drawn0.refl _ | apply Drawn0.step)⟩

/-! ### impl_Vec_plus: function 22 -/
def impl_Vec_plus.f (a0_0 a0_1 a0_2 a1_0 a1_1 a1_2 : Int) : Option (Int × Int × Int) := (impl_both.f a0_0 a0_1 a0_2 a1_0 a1_1 a1_2 (fun z0_ z1_ => impl_Vec_plus_1.f z0_ z1_)).bind fun bt690 => (some (bt690.1, bt690.2.1, bt690.2.2))
set_option maxHeartbeats 8000000 in
set_option maxRecDepth 100000 in
theorem impl_Vec_plus.calls (a0_0 a0_1 a0_2 a1_0 a1_1 a1_2 r1 r2 r3 : Int) (w : World) (h : impl_Vec_plus.f a0_0 a0_1 a0_2 a1_0 a1_1 a1_2 = some (r1, r2, r3)) :
  Calls Try.prog 22 #[.agg #[I L a0_0,I L a0_1,I L a0_2],.agg #[I L a1_0,I L a1_1,I L a1_2]] w fun e w'=>e=.returned (.agg #[I L r1,I L r2,I L r3])∧Below w.heap.size w w':=by
 have hu29 := Try.underlying29
 have HB := D (Below.refl w.heap.size w)
 have H : ((impl_both.f a0_0 a0_1 a0_2 a1_0 a1_1 a1_2 (fun z0_ z1_ => impl_Vec_plus_1.f z0_ z1_)).bind fun bt690 => (some (bt690.1, bt690.2.1, bt690.2.2))) = some (r1, r2, r3) := h
 clear h
 obtain ⟨⟨t690, t691, t692⟩, A30, H⟩ := bs_.mp H
 (try dsimp only at H)
 have A3 := D A30
 clear A30
 simp only [Option.some.injEq, Prod.mk.injEq] at H
 obtain ⟨rfl, rfl, rfl⟩ := H
 go_enter Try.func22, Try.ntmps22
 go_wp2_with (first|((with_reducible refine gate_dst (N:=2) rfl ?_);refine bx_ (N:=2) (cs:=#[I L a0_0,I L a0_1,I L a0_2]) (t:=29) ?_;intro gb687 hg w4 hbox hb;have n_:=an_ (below_step (pB_ HB.out) hb)<|an_ (hbox)<|an_ (bg_ hg (pB_ HB.out):w.heap.size≤gb687)<|D (bg_ hg (pB_ HB.out):w.heap.size≤gb687);clear HB;obtain ⟨HB,BK687,GW687,GE687⟩:=n_;clear hb hbox hg)|((with_reducible refine gate_dst (N:=3) rfl ?_);refine bx_ (N:=3) (cs:=#[I L a1_0,I L a1_1,I L a1_2]) (t:=29) ?_;intro gb688 hg w5 hbox hb;have n_:=an_ (blk_below (pk_ BK687.out) hb)<|an_ (below_step (pB_ HB.out) hb)<|an_ (hbox)<|an_ (bg_ hg (pB_ HB.out):w.heap.size≤gb688)<|an_ (bg_ hg (pB_ HB.out):w.heap.size≤gb688)<|an_ (nl_ hg (pk_ BK687.out):gb687≠gb688)<|D (by rw [hg];exact Nat.ne_of_gt (blk_lt (pk_ BK687.out)):gb688≠gb687);clear BK687 HB;obtain ⟨BK687,HB,BK688,GW688,GE688,NB687_688,NB688_687⟩:=n_;clear hb hbox hg)|((with_reducible refine gate_dst (N:=4) rfl ?_);refine bx_ (N:=4) (cs:=#[I L 0,I L 0,I L 0]) (t:=29) ?_;intro gb689 hg w6 hbox hb;have n_:=an_ (blk_below (pk_ BK687.out) hb)<|an_ (blk_below (pk_ BK688.out) hb)<|an_ (below_step (pB_ HB.out) hb)<|an_ (hbox)<|an_ (bg_ hg (pB_ HB.out):w.heap.size≤gb689)<|an_ (bg_ hg (pB_ HB.out):w.heap.size≤gb689)<|an_ (nl_ hg (pk_ BK687.out):gb687≠gb689)<|an_ (ng_ hg (pk_ BK687.out):gb689≠gb687)<|an_ (nl_ hg (pk_ BK688.out):gb688≠gb689)<|D (by rw [hg];exact Nat.ne_of_gt (blk_lt (pk_ BK688.out)):gb689≠gb688);clear BK687 BK688 HB;obtain ⟨BK687,BK688,HB,BK689,GW689,GE689,NB687_689,NB689_687,NB688_689,NB689_688⟩:=n_;clear hb hbox hg;(try have:=NB687_688.out);(try have:=NB688_687.out);(try have:=NB687_689.out);(try have:=NB689_687.out);have hcz9_0:=cells3 BK687.out;(try have:=NB688_689.out);(try have:=NB689_688.out);have hcz11_0:=cells3 BK688.out)|((with_reducible refine gate_callee (f:=38) rfl ?_);refine goesL_ (some 7) rfl rfl Try.func38 (by kernel_rfl) rfl #[.agg #[I L a0_0,I L a0_1,I L a0_2],.agg #[I L a1_0,I L a1_1,I L a1_2],.func (.func 39) #[] #[]] rfl Z15 ?_;(with_reducible refine (impl_both.calls a0_0 a0_1 a0_2 a1_0 a1_1 a1_2 (fun z0_ z1_=>impl_Vec_plus_1.f z0_ z1_) 39 #[] t690 t691 t692 _ ?side1 ?side2 A3.out).mono ?_);(case side1=>exact ⟨⟨_,Try.func39,by kernel_rfl,rfl⟩⟩);(case side2=>refine ⟨?_⟩;intro a900 a901 rr0_ W_ hW_ h_;refine calls_of_args (args':=#[I L a900,I L a901]) (by simp) ?_;refine (impl_Vec_plus_1.calls a900 a901  rr0_ W_ h_).mono ?_;rintro e w' ⟨rfl,hd_⟩;exact ⟨rfl,hd_.below⟩);rintro e w12 ⟨rfl,hb⟩;refine ⟨_,rfl,?_⟩;have n_:=an_ (blk_below (pk_ BK687.out) hb)<|an_ (blk_below (pk_ BK688.out) hb)<|an_ (blk_below (pk_ BK689.out) hb)<|D (below_step (pB_ HB.out) hb);clear BK687 BK688 BK689 HB;obtain ⟨BK687,BK688,BK689,HB⟩:=n_;(try clear hb);have hcz13_0:=cells3 BK689.out))
 refine bodyPost_ret (results_cell_row rfl _ _ gb689 29 #[I L t690,I L t691,I L t692] (0,0) _ rfl (by exact pP_ BK689.out) Try.underlying29 rfl (by kernel_rfl)) rfl ?_
 exact ⟨er_, pB_ HB.out⟩

/-! ### impl_ProfCost_1: function 40 -/
def impl_ProfCost_1.f (a0 a1 a2_0 : Int) : Option (Int) := some (wrap64 (a0 + (wrap64 (Int.tdiv (wrap64 (a1 * a2_0)) 64))))
set_option maxHeartbeats 8000000 in
set_option maxRecDepth 100000 in
theorem impl_ProfCost_1.calls (a0 a1 : Int) (gc2 : Nat) (a2_0 r : Int) (w : World) (hbx2 : w.heap[gc2]? = some (.cells #[I L a2_0] 3 (0, 0))) (h : impl_ProfCost_1.f a0 a1 a2_0 = some r) :
  Calls Try.prog 40 #[I L a0, I L a1, .pointer (some ⟨gc2, 0, none⟩)] w fun e w' => e = .returned (I L r) ∧ Drawn0 w w' := by
 have BK2 := D hbx2
 clear hbx2
 have H : (some (wrap64 (a0 + (wrap64 (Int.tdiv (wrap64 (a1 * a2_0)) 64))))) = some r := h
 clear h
 obtain rfl := Option.some.inj H
 obtain ⟨hcz4_0, hfz4_0⟩ := cells1 BK2.out
 go_enter Try.func40, Try.ntmps40
 go_wp2
 go_ret
 exact ⟨by first | rfl | (simp; done) | (simp [*]; done), by repeat (first | exact Drawn0.refl _ | apply Drawn0.step)⟩

/-! ### impl_ProfCost: function 23 -/
def impl_ProfCost.f (a0_0 a0_1 a0_2 a0_3 a0_4 a0_5 a1 : Int) : Option (Int × Int × Int) := (impl_ProfOk.f a0_0 a0_1 a0_2 a0_3 a0_4 a0_5).bind fun t696 => (if t696 = true then ((impl_isSize.f a1).bind fun t697 => (if t697 = true then ((impl_both.f a0_0 a0_1 a0_2 a0_3 a0_4 a0_5 (fun z0_ z1_ => impl_ProfCost_1.f z0_ z1_ a1)).bind fun bt698 => (some (bt698.1, bt698.2.1, bt698.2.2))) else (some (0, 0, 0)))) else (some (0, 0, 0)))
set_option maxHeartbeats 8000000 in
set_option maxRecDepth 100000 in
theorem impl_ProfCost.calls (a0_0 a0_1 a0_2 a0_3 a0_4 a0_5 a1 r1 r2 r3 : Int) (w : World) (h : impl_ProfCost.f a0_0 a0_1 a0_2 a0_3 a0_4 a0_5 a1 = some (r1, r2, r3)) :
  Calls Try.prog 23 #[.agg #[I L a0_0,I L a0_1,I L a0_2,I L a0_3,I L a0_4,I L a0_5],I L a1] w fun e w'=>e=.returned (.agg #[I L r1,I L r2,I L r3])∧Below w.heap.size w w':=by
 have hu43 := Try.underlying43
 have hu29 := Try.underlying29
 have hmf : ∀ (fn : Fn) (first cap : Array Value) (w : World), (Instr.makeFunc fn first cap).run Try.prog w = .ok (.func fn first cap) w := fun _ _ _ _ => rfl
 have HB := D (Below.refl w.heap.size w)
 have H:((impl_ProfOk.f a0_0 a0_1 a0_2 a0_3 a0_4 a0_5).bind fun t696=>(if t696=true then ((impl_isSize.f a1).bind fun t697=>(if t697=true then ((impl_both.f a0_0 a0_1 a0_2 a0_3 a0_4 a0_5 (fun z0_ z1_=>impl_ProfCost_1.f z0_ z1_ a1)).bind fun bt698=>(some (bt698.1,bt698.2.1,bt698.2.2))) else (some (0,0,0)))) else (some (0,0,0))))=some (r1,r2,r3):=h
 clear h
 obtain ⟨t696, A30, H⟩ := bs_.mp H
 (try dsimp only at H)
 have A3 := D A30
 clear A30
 by_cases c4 : t696 = true
 ·subst c4
  rw [if_pos rfl] at H;obtain ⟨t697,A50,H⟩:=bs_.mp H;(try dsimp only at H);have A5:=D A50;clear A50;have HU6:=D H;clear H;go_enter Try.func23,Try.ntmps23
  go_upto_if 12 with (first|((with_reducible refine gate_dst (N:=2) rfl ?_);refine bx_ (N:=2) (cs:=#[I L a0_0,I L a0_1,I L a0_2,I L a0_3,I L a0_4,I L a0_5]) (t:=43) ?_;intro gb693 hg w7 hbox hb;have n_:=an_ (below_step (pB_ HB.out) hb)<|an_ (hbox)<|an_ (bg_ hg (pB_ HB.out):w.heap.size≤gb693)<|D (bg_ hg (pB_ HB.out):w.heap.size≤gb693);clear HB;obtain ⟨HB,BK693,GW693,GE693⟩:=n_;clear hb hbox hg)|((with_reducible refine gate_dst (N:=3) rfl ?_);refine bx_ (N:=3) (cs:=#[I L a1]) (t:=3) ?_;intro gb694 hg w8 hbox hb;have n_:=an_ (blk_below (pk_ BK693.out) hb)<|an_ (below_step (pB_ HB.out) hb)<|an_ (hbox)<|an_ (bg_ hg (pB_ HB.out):w.heap.size≤gb694)<|an_ (bg_ hg (pB_ HB.out):w.heap.size≤gb694)<|an_ (nl_ hg (pk_ BK693.out):gb693≠gb694)<|D (by rw [hg];exact Nat.ne_of_gt (blk_lt (pk_ BK693.out)):gb694≠gb693);clear BK693 HB;obtain ⟨BK693,HB,BK694,GW694,GE694,NB693_694,NB694_693⟩:=n_;clear hb hbox hg)|((with_reducible refine gate_dst (N:=4) rfl ?_);refine bx_ (N:=4) (cs:=#[I L 0,I L 0,I L 0]) (t:=29) ?_;intro gb695 hg w9 hbox hb;have n_:=an_ (blk_below (pk_ BK693.out) hb)<|an_ (blk_below (pk_ BK694.out) hb)<|an_ (below_step (pB_ HB.out) hb)<|an_ (hbox)<|an_ (bg_ hg (pB_ HB.out):w.heap.size≤gb695)<|an_ (bg_ hg (pB_ HB.out):w.heap.size≤gb695)<|an_ (nl_ hg (pk_ BK693.out):gb693≠gb695)<|an_ (ng_ hg (pk_ BK693.out):gb695≠gb693)<|an_ (nl_ hg (pk_ BK694.out):gb694≠gb695)<|D (by rw [hg];exact Nat.ne_of_gt (blk_lt (pk_ BK694.out)):gb695≠gb694);clear BK693 BK694 HB;obtain ⟨BK693,BK694,HB,BK695,GW695,GE695,NB693_695,NB695_693,NB694_695,NB695_694⟩:=n_;clear hb hbox hg;(try have:=NB693_694.out);(try have:=NB694_693.out);(try have:=NB693_695.out);(try have:=NB695_693.out);have hcz12_0:=cells6 BK693.out)|((with_reducible refine gate_callee (f:=33) rfl ?_);refine goesL_ (some 6) rfl rfl Try.func33 (by kernel_rfl) rfl #[.agg #[I L a0_0,I L a0_1,I L a0_2,I L a0_3,I L a0_4,I L a0_5]] rfl Z15 ?_;(with_reducible refine (impl_ProfOk.calls a0_0 a0_1 a0_2 a0_3 a0_4 a0_5 true _ A3.out).mono ?_);rintro e w13 ⟨rfl,hb⟩;refine ⟨_,rfl,?_⟩;have n_:=an_ (blk_below (pk_ BK693.out) hb)<|an_ (blk_below (pk_ BK694.out) hb)<|an_ (blk_below (pk_ BK695.out) hb)<|D (below_step (pB_ HB.out) hb);clear BK693 BK694 BK695 HB;obtain ⟨BK693,BK694,BK695,HB⟩:=n_;(try clear hb);(try have:=NB694_695.out);(try have:=NB695_694.out);have hcz15_0:=cells1 BK694.out)|(go_at_call 21;(with_reducible refine (impl_isSize.calls a1 t697 _ A5.out).mono ?_);rintro e w' ⟨rfl,⟨nd,rfl⟩⟩))
  have H := HU6.out; clear HU6
  by_cases c16 : t697 = true
  ·subst c16
   rw [if_pos rfl] at H;obtain ⟨⟨t698,t699,t700⟩,A170,H⟩:=bs_.mp H;(try dsimp only at H);have A17:=D A170;clear A170;simp only [Option.some.injEq,Prod.mk.injEq] at H;obtain ⟨rfl,rfl,rfl⟩:=H;(try have:=NB693_694.out);(try have:=NB694_693.out);(try have:=NB693_695.out);(try have:=NB695_693.out);have hcz20_0:=cells6 BK693.out
   go_wp2_with (first|((with_reducible refine gate_callee (f:=38) rfl ?_);refine goesL_ (some 19) rfl rfl Try.func38 (by kernel_rfl) rfl #[.agg #[I L a0_0,I L a0_1,I L a0_2],.agg #[I L a0_3,I L a0_4,I L a0_5],.func (.func 40) #[] #[.pointer (some ⟨gb694,0,none⟩)]] rfl Z15 ?_;(with_reducible refine (impl_both.calls a0_0 a0_1 a0_2 a0_3 a0_4 a0_5 (fun z0_ z1_=>impl_ProfCost_1.f z0_ z1_ a1) 40 #[.pointer (some ⟨gb694,0,none⟩)] t698 t699 t700 _ ?side1 ?side2 A17.out).mono ?_);(case side1=>exact ⟨⟨_,Try.func40,by kernel_rfl,rfl⟩⟩);(case side2=>refine ⟨?_⟩;intro a900 a901 rr0_ W_ hW_ h_;refine calls_of_args (args':=#[I L a900,I L a901,.pointer (some ⟨gb694,0,none⟩)]) (by simp) ?_;refine (impl_ProfCost_1.calls a900 a901 gb694 a1 rr0_ W_ (blk_below (pk_ BK694.out) hW_) h_).mono ?_;rintro e w' ⟨rfl,hd_⟩;exact ⟨rfl,hd_.below⟩);rintro e w21 ⟨rfl,hb⟩;refine ⟨_,rfl,?_⟩;have n_:=an_ (blk_below (pk_ BK693.out) hb)<|an_ (blk_below (pk_ BK694.out) hb)<|an_ (blk_below (pk_ BK695.out) hb)<|D (below_step (pB_ HB.out) hb);clear BK693 BK694 BK695 HB;obtain ⟨BK693,BK694,BK695,HB⟩:=n_;(try clear hb);(try have:=NB695_694.out);(try have:=NB694_695.out);have hcz23_0:=cells3 BK695.out))
   refine bodyPost_ret (results_cell_row rfl _ _ gb695 29 #[I L t698,I L t699,I L t700] (0,0) _ rfl (by exact pP_ BK695.out) Try.underlying29 rfl (by kernel_rfl)) rfl ?_;exact ⟨er_,pB_ HB.out⟩
  ·replace c16 := Bool.eq_false_iff.mpr c16
   subst c16;rw [if_neg (show ¬ (false=true) by decide)] at H;simp only [Option.some.injEq,Prod.mk.injEq] at H;obtain ⟨rfl,rfl,rfl⟩:=H;(try have:=NB695_693.out);(try have:=NB693_695.out);(try have:=NB695_694.out);(try have:=NB694_695.out);have hcz26_0:=cells3 BK695.out
   go_wp2
   refine bodyPost_ret (results_cell_row rfl _ _ gb695 29 #[I L 0,I L 0,I L 0] (0,0) _ rfl Z7 Try.underlying29 rfl (by kernel_rfl)) rfl ?_;exact ⟨er_,pB_ HB.out⟩
 ·replace c4 := Bool.eq_false_iff.mpr c4
  subst c4; rw [if_neg (show ¬ (false = true) by decide)] at H; simp only [Option.some.injEq, Prod.mk.injEq] at H; obtain ⟨rfl, rfl, rfl⟩ := H; go_enter Try.func23, Try.ntmps23
  go_wp2_with (first|((with_reducible refine gate_dst (N:=2) rfl ?_);refine bx_ (N:=2) (cs:=#[I L a0_0,I L a0_1,I L a0_2,I L a0_3,I L a0_4,I L a0_5]) (t:=43) ?_;intro gb693 hg w27 hbox hb;have n_:=an_ (below_step (pB_ HB.out) hb)<|an_ (hbox)<|an_ (bg_ hg (pB_ HB.out):w.heap.size≤gb693)<|D (bg_ hg (pB_ HB.out):w.heap.size≤gb693);clear HB;obtain ⟨HB,BK693,GW693,GE693⟩:=n_;clear hb hbox hg)|((with_reducible refine gate_dst (N:=3) rfl ?_);refine bx_ (N:=3) (cs:=#[I L a1]) (t:=3) ?_;intro gb694 hg w28 hbox hb;have n_:=an_ (blk_below (pk_ BK693.out) hb)<|an_ (below_step (pB_ HB.out) hb)<|an_ (hbox)<|an_ (bg_ hg (pB_ HB.out):w.heap.size≤gb694)<|an_ (bg_ hg (pB_ HB.out):w.heap.size≤gb694)<|an_ (nl_ hg (pk_ BK693.out):gb693≠gb694)<|D (by rw [hg];exact Nat.ne_of_gt (blk_lt (pk_ BK693.out)):gb694≠gb693);clear BK693 HB;obtain ⟨BK693,HB,BK694,GW694,GE694,NB693_694,NB694_693⟩:=n_;clear hb hbox hg)|((with_reducible refine gate_dst (N:=4) rfl ?_);refine bx_ (N:=4) (cs:=#[I L 0,I L 0,I L 0]) (t:=29) ?_;intro gb695 hg w29 hbox hb;have n_:=an_ (blk_below (pk_ BK693.out) hb)<|an_ (blk_below (pk_ BK694.out) hb)<|an_ (below_step (pB_ HB.out) hb)<|an_ (hbox)<|an_ (bg_ hg (pB_ HB.out):w.heap.size≤gb695)<|an_ (bg_ hg (pB_ HB.out):w.heap.size≤gb695)<|an_ (nl_ hg (pk_ BK693.out):gb693≠gb695)<|an_ (ng_ hg (pk_ BK693.out):gb695≠gb693)<|an_ (nl_ hg (pk_ BK694.out):gb694≠gb695)<|D (by rw [hg];exact Nat.ne_of_gt (blk_lt (pk_ BK694.out)):gb695≠gb694);clear BK693 BK694 HB;obtain ⟨BK693,BK694,HB,BK695,GW695,GE695,NB693_695,NB695_693,NB694_695,NB695_694⟩:=n_;clear hb hbox hg;(try have:=NB693_694.out);(try have:=NB694_693.out);(try have:=NB693_695.out);(try have:=NB695_693.out);have hcz32_0:=cells6 BK693.out)|((with_reducible refine gate_callee (f:=33) rfl ?_);refine goesL_ (some 6) rfl rfl Try.func33 (by kernel_rfl) rfl #[.agg #[I L a0_0,I L a0_1,I L a0_2,I L a0_3,I L a0_4,I L a0_5]] rfl Z15 ?_;(with_reducible refine (impl_ProfOk.calls a0_0 a0_1 a0_2 a0_3 a0_4 a0_5 false _ A3.out).mono ?_);rintro e w33 ⟨rfl,hb⟩;refine ⟨_,rfl,?_⟩;have n_:=an_ (blk_below (pk_ BK693.out) hb)<|an_ (blk_below (pk_ BK694.out) hb)<|an_ (blk_below (pk_ BK695.out) hb)<|D (below_step (pB_ HB.out) hb);clear BK693 BK694 BK695 HB;obtain ⟨BK693,BK694,BK695,HB⟩:=n_;(try clear hb);(try have:=NB695_694.out);(try have:=NB694_695.out);have hcz35_0:=cells3 BK695.out))
  refine bodyPost_ret (results_cell_row rfl _ _ gb695 29 #[I L 0,I L 0,I L 0] (0,0) _ rfl Z7 Try.underlying29 rfl (by kernel_rfl)) rfl ?_;exact ⟨er_,pB_ HB.out⟩

/-! ### impl_Vec_each: function 24 -/
def impl_Vec_each.f (a0_0 a0_1 a0_2 : Int) (a1 : (Int → Option (Int))) : Option (Int × Int × Int) := (a1 a0_0).bind fun t703 => ((a1 a0_1).bind fun t704 => ((a1 a0_2).bind fun t705 => (some (t703, t704, t705))))
def impl_Vec_each.T1 : Bool × List (List Nat × List Nat) := (true, [([], []), ([], []), ([1], [1]), ([0, 2], [0, 2]), ([], []), ([], []), ([5], [5]), ([4, 6, 3], [4, 6]), ([], []), ([], []), ([9], [9]), ([8, 10, 7], [8, 10]), ([3, 7, 11], [3, 7, 11]), ([12, 11, 0, 1, 2, 3, 4, 5, 6, 7, 8, 9, 10, 11, 12], [12])])
def impl_Vec_each.B1 : List Nat := [0, 0, 2, 7, 0, 0, 32, 127, 0, 0, 512, 2047, 4095, 8191]
theorem impl_Vec_each.tab1 : rtab .any (opsOf Try.f24 1) = impl_Vec_each.T1 := by kernel_rfl
theorem impl_Vec_each.bits1 : waitsOk impl_Vec_each.T1.2 impl_Vec_each.B1 = true := by kernel_rfl
set_option maxHeartbeats 8000000 in
set_option maxRecDepth 100000 in
theorem impl_Vec_each.calls (a0_0 a0_1 a0_2 : Int) (a1 : (Int → Option (Int))) (fn1 : Nat) (cp1 : Array Value) (r1 r2 r3 : Int) (w : World) (hq1 : Aside0 (∃ F_, Try.prog.funcs[fn1]? = some F_ ∧ (F_.name == "runtime.NumGoroutine") = false ∧ F_.body.isSome = true)) (HP1_24 : Aside0 (∀ (a900 rr0_ : Int) (W_ : World), Below w.heap.size w W_ → a1 a900 = some rr0_ → Calls Try.prog fn1 (#[I L a900] ++ cp1) W_ (fun e w' => e = .returned (I L rr0_) ∧ Below W_.heap.size W_ w'))) (h : impl_Vec_each.f a0_0 a0_1 a0_2 a1 = some (r1, r2, r3)) :
  Calls Try.prog 24 #[.agg #[I L a0_0,I L a0_1,I L a0_2],.func (.func fn1) #[] cp1] w fun e w'=>e=.returned (.agg #[I L r1,I L r2,I L r3])∧Below w.heap.size w w':=by
 have hu29 := Try.underlying29
 have HB := D (Below.refl w.heap.size w)
 have H : ((a1 a0_0).bind fun t703 => ((a1 a0_1).bind fun t704 => ((a1 a0_2).bind fun t705 => (some (t703, t704, t705))))) = some (r1, r2, r3) := h
 clear h
 obtain ⟨t703, A30, H⟩ := bs_.mp H
 (try dsimp only at H)
 have A3 := D A30
 clear A30
 obtain ⟨t704, A40, H⟩ := bs_.mp H
 (try dsimp only at H)
 have A4 := D A40
 clear A40
 obtain ⟨t705, A50, H⟩ := bs_.mp H
 (try dsimp only at H)
 have A5 := D A50
 clear A50
 simp only [Option.some.injEq, Prod.mk.injEq] at H
 obtain ⟨rfl, rfl, rfl⟩ := H
 go_enter Try.func24, Try.ntmps24
 try go_wp2_with (first|((with_reducible refine gate_dst (N:=2) rfl ?_);refine bx_ (N:=2) (cs:=#[I L a0_0,I L a0_1,I L a0_2]) (t:=29) ?_;intro gb701 hg w6 hbox hb;have n_:=an_ (below_step (pB_ HB.out) hb)<|an_ (hbox)<|an_ (bg_ hg (pB_ HB.out):w.heap.size≤gb701)<|D (bg_ hg (pB_ HB.out):w.heap.size≤gb701);clear HB;obtain ⟨HB,BK701,GW701,GE701⟩:=n_;clear hb hbox hg)|((with_reducible refine gate_dst (N:=4) rfl ?_);refine bx_ (N:=4) (cs:=#[I L 0,I L 0,I L 0]) (t:=29) ?_;intro gb702 hg w7 hbox hb;have n_:=an_ (blk_below (pk_ BK701.out) hb)<|an_ (below_step (pB_ HB.out) hb)<|an_ (hbox)<|an_ (bg_ hg (pB_ HB.out):w.heap.size≤gb702)<|an_ (bg_ hg (pB_ HB.out):w.heap.size≤gb702)<|an_ (nl_ hg (pk_ BK701.out):gb701≠gb702)<|D (by rw [hg];exact Nat.ne_of_gt (blk_lt (pk_ BK701.out)):gb702≠gb701);clear BK701 HB;obtain ⟨BK701,HB,BK702,GW702,GE702,NB701_702,NB702_701⟩:=n_;clear hb hbox hg))
 have n_ := an_ (blk_drew BK701.out) <| an_ (blk_drew BK702.out) <| D (below_drew1 HB.out)
 clear BK701 BK702 HB
 obtain ⟨BK701, BK702, HB⟩ := n_
 refine start_ (n:=14) (S:=fun w'=>w'.cell? ⟨gb701,0,none⟩=some (I L a0_0)∧w'.cell? ⟨gb701,1,none⟩=some (I L a0_1)∧w'.cell? ⟨gb701,2,none⟩=some (I L a0_2)) (ds:=[]) (bz 14 0) (by kernel_rfl) rfl (by kernel_rfl) (be3_ BK701.out) (fun hHeld=>?_);refine with_tabW impl_Vec_each.tab1 impl_Vec_each.bits1 (fun HT_ HW_=>?_)
 generalize w7.drew = w8 at BK701 BK702 HB hHeld ⊢
 refine pb_ 0 ?_
 refine pb_ 1 ?_
 refine pb_ 4 ?_
 refine pb_ 5 ?_
 refine pb_ 8 ?_
 refine pb_ 9 ?_
 refine tb_ 2 rfl rfl hHeld Z20 ?_
 refine tb_ 6 rfl rfl hHeld Z20 ?_
 refine tb_ 10 rfl rfl hHeld Z20 ?_
 refine oa_ 3 8 14 1919 HT_ (fun K hK => ?_)
 obtain ⟨_, hF1_, hF2_, hF3_⟩ := hq1.out
 refine goesV_ hF1_ hF2_ hF3_ #[I L a0_0] (cp := cp1) (by rfl) rfl rfl Z23 Z15 ?_
 with_reducible refine (HP1_24.out a0_0 t703 _ ?side1 A3.out).mono ?_
 (case side1 => exact pB_ HB.out)
 rintro e w9 ⟨rfl, hb⟩
 refine ⟨_, rfl, ?_⟩
 have n_ := an_ (blk_below (pk_ BK701.out) hb) <| an_ (blk_below (pk_ BK702.out) hb) <| D (below_step (pB_ HB.out) hb)
 clear BK701 BK702 HB
 obtain ⟨BK701, BK702, HB⟩ := n_
 (try clear hb)
 (try clear hb2)
 (try clear hk)
 (try clear hi)
 refine hK.out _ _ ⟨bc_ BK701.out 0, (bc_ BK701.out 1), (bc_ BK701.out 2)⟩ (fun hHeld => ?_)
 clear hK K
 refine nx_ (N := some 8) ?_
 refine oa_ 7 12 14 2047 HT_ (fun K hK => ?_)
 obtain ⟨_, hF1_, hF2_, hF3_⟩ := hq1.out
 refine goesV_ hF1_ hF2_ hF3_ #[I L a0_1] (cp := cp1) (by rfl) rfl rfl Z23 Z15 ?_
 with_reducible refine (HP1_24.out a0_1 t704 _ ?side1 A4.out).mono ?_
 (case side1 => exact pB_ HB.out)
 rintro e w10 ⟨rfl, hb⟩
 refine ⟨_, rfl, ?_⟩
 have n_ := an_ (blk_below (pk_ BK701.out) hb) <| an_ (blk_below (pk_ BK702.out) hb) <| D (below_step (pB_ HB.out) hb)
 clear BK701 BK702 HB
 obtain ⟨BK701, BK702, HB⟩ := n_
 (try clear hb)
 (try clear hb2)
 (try clear hk)
 (try clear hi)
 refine hK.out _ _ ⟨bc_ BK701.out 0, (bc_ BK701.out 1), (bc_ BK701.out 2)⟩ (fun hHeld => ?_)
 clear hK K
 refine nx_ (N := some 12) ?_
 refine oa_ 11 16 14 4095 HT_ (fun K hK => ?_)
 obtain ⟨_, hF1_, hF2_, hF3_⟩ := hq1.out
 refine goesV_ hF1_ hF2_ hF3_ #[I L a0_2] (cp := cp1) (by rfl) rfl rfl Z23 Z15 ?_
 with_reducible refine (HP1_24.out a0_2 t705 _ ?side1 A5.out).mono ?_
 (case side1 => exact pB_ HB.out)
 rintro e w11 ⟨rfl, hb⟩
 refine ⟨_, rfl, ?_⟩
 have n_ := an_ (blk_below (pk_ BK701.out) hb) <| an_ (blk_below (pk_ BK702.out) hb) <| D (below_step (pB_ HB.out) hb)
 clear BK701 BK702 HB
 obtain ⟨BK701, BK702, HB⟩ := n_
 (try clear hb)
 (try clear hb2)
 (try clear hk)
 (try clear hi)
 refine hK.out _ _ ⟨bc_ BK701.out 0, (bc_ BK701.out 1), (bc_ BK701.out 2)⟩ (fun hHeld => ?_)
 clear hK K
 refine nx_ (N := some 16) ?_
 refine pb_ 12 ?_
 refine one_ (i := 13) (N := none) (bz 14 16383) rfl rfl (one_of HT_.out (by kernel_rfl)) (by decide) (fun K hK => ?_)
 have hs12 : w11.cell? ⟨gb702, 0, none⟩ = some (I L 0) := (bc_ BK702.out 0)
 have hfs12 := blk_frozen BK702.out 0
 have hns12_0 := NB701_702.out
 have hms12_0 := NB702_701.out
 have hs13 : w11.cell? ⟨gb702, 1, none⟩ = some (I L 0) := (bc_ BK702.out 1)
 have hfs13 := blk_frozen BK702.out 1
 have hns13_0 := NB701_702.out
 have hms13_0 := NB702_701.out
 have hs14 : w11.cell? ⟨gb702, 2, none⟩ = some (I L 0) := (bc_ BK702.out 2)
 have hfs14 := blk_frozen BK702.out 2
 have hns14_0 := NB701_702.out
 have hms14_0 := NB702_701.out
 refine skip_ (w1 := ?_) (by rfl) rfl ?_ ?_
 rotate_left
 ·go_simp
  rfl
 refine hK.out _ _ ⟨(cF_ NB701_702.out (hHeld.1)),(cF_ NB701_702.out (hHeld.2.1)),(cF_ NB701_702.out (hHeld.2.2))⟩ (fun hHeld=>?_)
 clear hK K
 refine done_ (done_of HT_.out (by kernel_rfl)) ?_
 try go_wp2
 refine bodyPost_ret (results_cell_row rfl _ _ gb702 29 #[I L t703,I L t704,I L t705] (0,0) _ rfl (by exact pP_ BK702.out) Try.underlying29 rfl (by kernel_rfl)) rfl ?_
 exact ⟨er_, pB_ HB.out⟩

/-! ### impl_ChainCost_1: function 25 -/
def impl_ChainCost_1.f (a0 : Int) : Option (Int) := (impl_Clip.f a0 1 1000).bind fun t706 => (some t706)
set_option maxHeartbeats 8000000 in
set_option maxRecDepth 100000 in
theorem impl_ChainCost_1.calls (a0 r : Int) (w : World) (h : impl_ChainCost_1.f a0 = some r) :
  Calls Try.prog 25 #[I L a0] w fun e w' => e = .returned (I L r) ∧ Drawn0 w w' := by
 have H : ((impl_Clip.f a0 1 1000).bind fun t706 => (some t706)) = some r := h
 clear h
 obtain ⟨t706, A20, H⟩ := bs_.mp H
 (try dsimp only at H)
 have A2 := D A20
 clear A20
 obtain rfl := Option.some.inj H
 go_enter Try.func25, Try.ntmps25
 go_wp2_with (first|((with_reducible refine gate_callee (f:=26) rfl ?_);refine goesL_ (some 4) rfl rfl Try.func26 (by kernel_rfl) rfl #[I L a0,I L 1,I L 1000] rfl Z15 ?_;(with_reducible refine (impl_Clip.calls a0 1 1000 t706 _ A2.out).mono ?_);rintro e w' ⟨rfl,⟨nd,rfl⟩⟩;refine ⟨_,rfl,?_⟩))
 go_ret
 exact ⟨by first | rfl | (simp; done) | (simp [*]; done), by repeat (first | exact Drawn0.refl _ | apply Drawn0.step)⟩

end Go.Proofs.Ytoacddcbiceeeab.PFnCostAdds
