-- by a program of this session's, over the kit's words
import Derived.Test.YtjhgkonacdimfabPZFnExactCmdOk
import Derived.Test.YtjhgkonacdimfabPFnExactCmdOkx0
namespace Go.Proofs.Ytjhgkonacdimfab.PFnExactCmdOk
open Go.RowKit Go.Proofs.YtjhgkonacdimfabW.PrintWords Go.Proofs.YtjhgkonacdimfabW.PrintLast Go.Proofs.YtjhgkonacdimfabW.PrintMore Go.Proofs.YtjhgkonacdimfabV Go.Proofs.Ytjhgkonacdimfab.ZFnExactCmdOk
open Go.Value renaming int → I, slice → Y
open Go.IntKind renaming i64 → L
open Aside0 renaming mk → D
open Option renaming bind_eq_some_iff → bs_
attribute [local go_sem] max2_int min2_int max_two min_two max_three min_three max_four min_four   -- for this text's walks alone
set_option linter.unusedVariables false
set_option linter.unusedSimpArgs false

/-! ### laws_szModuleS: function 9 -/
def laws_szModuleS.f (l0 : List (S69)) (a1 : Int) : Option (Int) := if (wrap64 (a1 - (l0.length : Int))) < 0 then (some (-1)) else (some (wrap64 (a1 - (l0.length : Int))))
set_option maxHeartbeats 8000000 in
set_option maxRecDepth 100000 in
theorem laws_szModuleS.calls (A0 : Option Addr) (c0 : Nat) (l0 : List (S69)) (a1 r : Int) (w : World) (hr0 : Kd.C k69 w A0 l0.length l0) (hc0 : l0.length ≤ c0) (h : laws_szModuleS.f l0 a1 = some r) :
  Calls Try.prog 9 #[Y A0 l0.length c0, I L a1] w fun e w' => e = .returned (I L r) ∧ Drawn0 w w' := by
 have HR0 := D hr0
 have HC0 := D hc0
 clear hr0 hc0
 have H : (if (wrap64 (a1 - (l0.length : Int))) < 0 then (some (-1)) else (some (wrap64 (a1 - (l0.length : Int))))) = some r := h
 clear h
 by_cases c3 : (wrap64 (a1 - (l0.length : Int))) < 0
 ·rw [if_pos c3] at H
  have c3b0 : decide ((wrap64 (a1 - (l0.length : Int))) < 0) = true := decide_eq_true c3; clear c3; obtain rfl := Option.some.inj H; go_enter Try.func9, Try.ntmps9
  go_wp2
  go_ret; exact ⟨by first | rfl | (simp; done) | (simp [*]; done), by repeat (first | exact Drawn0.refl _ | apply Drawn0.step)⟩
 ·rw [if_neg c3] at H
  have c3b0 : decide ((wrap64 (a1 - (l0.length : Int))) < 0) = false := decide_eq_false c3; clear c3; obtain rfl := Option.some.inj H; go_enter Try.func9, Try.ntmps9
  go_wp2
  go_ret; exact ⟨by first | rfl | (simp; done) | (simp [*]; done), by repeat (first | exact Drawn0.refl _ | apply Drawn0.step)⟩

/-! ### laws_szCmd: function 4 -/
def laws_szCmd.f (a0_0 a0_1 a0_2 a0_3 a0_4 a0_5 a0_6 a0_7 a0_8 a0_9 a0_10 a0_11 a0_12 a0_13 a0_14 a0_15 a0_16 a0_17 a0_18 a0_19 a0_20 a0_21 a0_22 a0_23 a0_24 a0_25 a0_26 a0_27 : Int) (a0_28 : Bool) (l0_29 : List (S69)) (a1 : Int) : Option (Int) := (laws_szModuleS.f l0_29 a1).bind fun t102 => (if t102 < 0 then (some (-1)) else (some t102))
set_option maxHeartbeats 8000000 in
set_option maxRecDepth 100000 in
theorem laws_szCmd.calls (a0_0 a0_1 a0_2 a0_3 a0_4 a0_5 a0_6 a0_7 a0_8 a0_9 a0_10 a0_11 a0_12 a0_13 a0_14 a0_15 a0_16 a0_17 a0_18 a0_19 a0_20 a0_21 a0_22 a0_23 a0_24 a0_25 a0_26 a0_27 : Int) (a0_28 : Bool) (A0_29 : Option Addr) (c0_29 : Nat) (l0_29 : List (S69)) (a1 r : Int) (w : World) (hr0_29 : Kd.C k69 w A0_29 l0_29.length l0_29) (hc0_29 : l0_29.length ≤ c0_29) (h : laws_szCmd.f a0_0 a0_1 a0_2 a0_3 a0_4 a0_5 a0_6 a0_7 a0_8 a0_9 a0_10 a0_11 a0_12 a0_13 a0_14 a0_15 a0_16 a0_17 a0_18 a0_19 a0_20 a0_21 a0_22 a0_23 a0_24 a0_25 a0_26 a0_27 a0_28 l0_29 a1 = some r) :
  Calls Try.prog 4 #[.agg #[I L a0_0,I L a0_1,I L a0_2,I L a0_3,I L a0_4,I L a0_5,I L a0_6,I L a0_7,I L a0_8,I L a0_9,I L a0_10,I L a0_11,I L a0_12,I L a0_13,I L a0_14,I L a0_15,I L a0_16,I L a0_17,I L a0_18,I L a0_19,I L a0_20,I L a0_21,I L a0_22,I L a0_23,I L a0_24,I L a0_25,I L a0_26,I L a0_27,.bool a0_28,Y A0_29 l0_29.length c0_29],I L a1] w fun e w'=>e=.returned (I L r)∧Below w.heap.size w w':=by
 have hu32 := Try.underlying32
 have HR0_29 := D hr0_29
 have HC0_29 := D hc0_29
 clear hr0_29 hc0_29
 have HB := D (Below.refl w.heap.size w)
 have H : ((laws_szModuleS.f l0_29 a1).bind fun t102 => (if t102 < 0 then (some (-1)) else (some t102))) = some r := h
 clear h
 obtain ⟨t102, A30, H⟩ := bs_.mp H
 (try dsimp only at H)
 have A3 := D A30
 clear A30
 have HU4 := D H
 clear H
 go_enter Try.func4, Try.ntmps4
 go_upto_if 10 with (first|((with_reducible refine gld_ 30 rfl ?_);refine lc30_ ?_)|((with_reducible refine gst_ 27 rfl ?_);refine sa27_ ?_)|((with_reducible refine gld_ 27 rfl ?_);refine la27_ ?_)|((with_reducible refine gst_ 32 rfl ?_);refine sa32_ ?_)|((with_reducible refine gld_ 32 rfl ?_);refine la32_ ?_)|((with_reducible refine gst_ 39 rfl ?_);refine sa39_ ?_)|((with_reducible refine gld_ 39 rfl ?_);refine la39_ ?_)|((with_reducible refine gate_dst (N:=2) rfl ?_);refine bx_ (N:=2) (cs:=#[I L a0_0,I L a0_1,I L a0_2,I L a0_3,I L a0_4,I L a0_5,I L a0_6,I L a0_7,I L a0_8,I L a0_9,I L a0_10,I L a0_11,I L a0_12,I L a0_13,I L a0_14,I L a0_15,I L a0_16,I L a0_17,I L a0_18,I L a0_19,I L a0_20,I L a0_21,I L a0_22,I L a0_23,I L a0_24,I L a0_25,I L a0_26,I L a0_27,.bool a0_28,Y A0_29 l0_29.length c0_29]) (t:=32) ?_;intro gb101 hg w5 hbox hb;have n_:=an_ (below_step (pB_ HB.out) hb)<|an_ (hbox)<|an_ (bg_ hg (pB_ HB.out):w.heap.size≤gb101)<|D (bg_ hg (pB_ HB.out):w.heap.size≤gb101);clear HB;obtain ⟨HB,BK101,GW101,GE101⟩:=n_;clear hb hbox hg)|((with_reducible refine gate_callee (f:=9) rfl ?_);refine goesL_ (some 8) rfl rfl Try.func9 (by kernel_rfl) rfl #[Y A0_29 l0_29.length c0_29,I L a1] rfl Z6 ?_;(with_reducible refine (laws_szModuleS.calls _ _ l0_29 a1 t102 _ ?side1 ?side2 A3.out).mono ?_);(case side1=>exact pC_ (Kd.C_below HR0_29.out HB.out));(case side2=>exact HC0_29.out);rintro e w' ⟨rfl,⟨nd,rfl⟩⟩;refine ⟨_,rfl,?_⟩))
 have H := HU4.out
 clear HU4
 by_cases c7 : t102 < 0
 ·rw [if_pos c7] at H
  have c7b0:decide (t102 < 0)=true:=decide_eq_true c7;clear c7;refine rw_ c7b0 ?_;obtain rfl:=Option.some.inj H
  go_wp2_with (first|((with_reducible refine gld_ 30 rfl ?_);refine lc30_ ?_)|((with_reducible refine gst_ 27 rfl ?_);refine sa27_ ?_)|((with_reducible refine gld_ 27 rfl ?_);refine la27_ ?_)|((with_reducible refine gst_ 32 rfl ?_);refine sa32_ ?_)|((with_reducible refine gld_ 32 rfl ?_);refine la32_ ?_)|((with_reducible refine gst_ 39 rfl ?_);refine sa39_ ?_)|((with_reducible refine gld_ 39 rfl ?_);refine la39_ ?_))
  go_ret; exact ⟨er_, pB_ HB.out⟩
 ·rw [if_neg c7] at H
  have c7b0:decide (t102 < 0)=false:=decide_eq_false c7;clear c7;refine rw_ c7b0 ?_;obtain rfl:=Option.some.inj H
  go_wp2_with (first|((with_reducible refine gld_ 30 rfl ?_);refine lc30_ ?_)|((with_reducible refine gst_ 27 rfl ?_);refine sa27_ ?_)|((with_reducible refine gld_ 27 rfl ?_);refine la27_ ?_)|((with_reducible refine gst_ 32 rfl ?_);refine sa32_ ?_)|((with_reducible refine gld_ 32 rfl ?_);refine la32_ ?_)|((with_reducible refine gst_ 39 rfl ?_);refine sa39_ ?_)|((with_reducible refine gld_ 39 rfl ?_);refine la39_ ?_))
  go_ret; exact ⟨er_, pB_ HB.out⟩

end Go.Proofs.Ytjhgkonacdimfab.PFnExactCmdOk
