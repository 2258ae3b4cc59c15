-- by a program of this session's, over the kit's words
import Derived.Test.YtjhgkonacdimfabPZFnExactCmdOk
import Derived.Test.YtjhgkonacdimfabPFnExactCmdOkx0
import Derived.Test.YtjhgkonacdimfabPFnExactCmdOkx13
namespace Go.Proofs.Ytjhgkonacdimfab.PFnExactCmdOk
open Go.RowKit Go.Proofs.YtjhgkonacdimfabW.PrintWords Go.Proofs.YtjhgkonacdimfabW.PrintLast Go.Proofs.YtjhgkonacdimfabW.PrintMore Go.Proofs.YtjhgkonacdimfabV Go.Proofs.Ytjhgkonacdimfab.ZFnExactCmdOk
open Go.Value renaming int → I, slice → Y
open Go.IntKind renaming i64 → L
open Aside0 renaming mk → D
open Option renaming bind_eq_some_iff → bs_
attribute [local go_sem] max2_int min2_int max_two min_two max_three min_three max_four min_four   -- for this text's walks alone
set_option linter.unusedVariables false
set_option linter.unusedSimpArgs false

/-! ### spec_ChainOk: function 14 -/
def spec_ChainOk.l0 : Nat → List (S65) → Int → Option (Bool)
 | 0, _, _ => none
 | k + 1,x0,x3=>if x3 < (x0.length:Int) then (if 0≤x3 then ((spec_ModuleOk.f k ((rd_T65 x0 x3).f0) ((rd_T65 x0 x3).f1.f0.f0) ((rd_T65 x0 x3).f1.f0.f1) ((rd_T65 x0 x3).f1.f0.f2) ((rd_T65 x0 x3).f1.f0.f3) ((rd_T65 x0 x3).f1.f0.f4) ((rd_T65 x0 x3).f1.f1) ((rd_T65 x0 x3).f2.f0.f0) ((rd_T65 x0 x3).f2.f0.f1) ((rd_T65 x0 x3).f2.f0.f2) ((rd_T65 x0 x3).f2.f0.f3) ((rd_T65 x0 x3).f2.f0.f4) ((rd_T65 x0 x3).f2.f1) ((rd_T65 x0 x3).f3) ((rd_T65 x0 x3).f4) ((rd_T65 x0 x3).f5) ((rd_T65 x0 x3).f6)).bind fun t214=>(if t214=true then (spec_ChainOk.l0 k x0 (wrap64 (x3 + 1))) else (some false))) else (none)) else (some true)
def spec_ChainOk.f (k : Nat) (l0 : List (S65)) : Option (Bool) := if (l0.length : Int) > 8 then (some false) else (spec_ChainOk.l0 k l0 0)
set_option maxHeartbeats 8000000 in
set_option maxRecDepth 100000 in
theorem spec_ChainOk.calls (k : Nat) (A0 : Option Addr) (c0 : Nat) (l0 : List (S65)) (r : Bool) (w : World) (hr0 : Kd.C k65 w A0 l0.length l0) (hc0 : l0.length ≤ c0) (h : spec_ChainOk.f k l0 = some r) :
  Calls Try.prog 14 #[Y A0 l0.length c0] w fun e w' => e = .returned (.bool r) ∧ Below w.heap.size w w' := by
 have hu65 := Try.underlying65
 have HR0 := D hr0
 have HC0 := D hc0
 clear hr0 hc0
 have HB := D (Below.refl w.heap.size w)
 have H : (if (l0.length : Int) > 8 then (some false) else (spec_ChainOk.l0 k l0 0)) = some r := h
 clear h
 by_cases c2 : (l0.length : Int) > 8
 ·rw [if_pos c2] at H
  have c2b0:decide (8 < (l0.length:Int))=true:=decide_eq_true c2;have c2b1:decide (8 < l0.length)=true:=decide_eq_true (by omega);clear c2;obtain rfl:=Option.some.inj H;go_enter Try.func14,Try.ntmps14
  go_wp2
  go_ret; exact ⟨er_, pB_ HB.out⟩
 ·rw [if_neg c2] at H
  have c2b0:decide (8 < (l0.length:Int))=false:=decide_eq_false c2;have c2b1:decide (8 < l0.length)=false:=decide_eq_false (by omega);clear c2;have H':=D H;clear H;go_enter Try.func14,Try.ntmps14
  go_wp2
  go_loopg [3] k (fun kq v3 w' => ∃ (x3_1 : Int), v3 = I L x3_1 ∧ Aside0 (spec_ChainOk.l0 kq l0 x3_1 = some r) ∧ Aside0 (kq ≤ k) ∧ Aside0 (Below w.heap.size w w'))
  case atStart => exact ⟨(0), Z11, H', ⟨Nat.le_refl _⟩, ⟨pB_ HB.out⟩⟩
  case round =>
   clear H'
   (try clear c1);(try clear c2);(try clear c2b0);(try clear c2b1);(try clear p2)
   obtain ⟨x3_1, rfl, HA, HK1, HB⟩ := hrel
   cases gk with
   | zero => exact absurd HA.out (by simp [spec_ChainOk.l0])
   | succ k1 =>
    have H := HA.out; clear HA; simp only [spec_ChainOk.l0] at H
    by_cases c3 : x3_1 < (l0.length : Int)
    ·rw [if_pos c3] at H
     have c3b0 : decide (x3_1 < (l0.length : Int)) = true := decide_eq_true c3; clear c3
     by_cases c4 : 0 ≤ x3_1
     ·rw [if_pos c4] at H
      have c4b0:decide (0≤x3_1)=true:=decide_eq_true c4;clear c4;obtain ⟨t214,A50,H⟩:=bs_.mp H;(try dsimp only at H);have A5:=D A50;clear A50;have HU6:=D H;clear H;have p213:0≤(x3_1:Int):=od_ Z10;have q213:x3_1 < (l0.length:Int):=od_ Z10;obtain ⟨ad213,e213,hx213_0,hx213_1,hx213_2,hx213_3,hx213_4,hx213_5,hx213_6,hx213_7,hx213_8,hx213_9,hx213_10,hx213_11,hx213_12,hx213_13,hx213_14,hx213_15,hx213_16⟩:=at_T65 HR0.out x3_1 p213 q213;cases e213;replace hx213_0:=rc_ HB.out hx213_0;replace hx213_1:=rc_ HB.out hx213_1;replace hx213_2:=rc_ HB.out hx213_2;replace hx213_3:=rc_ HB.out hx213_3;replace hx213_4:=rc_ HB.out hx213_4;replace hx213_5:=rc_ HB.out hx213_5;replace hx213_6:=rc_ HB.out hx213_6;replace hx213_7:=rc_ HB.out hx213_7;replace hx213_8:=rc_ HB.out hx213_8;replace hx213_9:=rc_ HB.out hx213_9;replace hx213_10:=rc_ HB.out hx213_10;replace hx213_11:=rc_ HB.out hx213_11;replace hx213_12:=rc_ HB.out hx213_12;replace hx213_13:=rc_ HB.out hx213_13;replace hx213_14:=rc_ HB.out hx213_14;replace hx213_15:=rc_ HB.out hx213_15;replace hx213_16:=rc_ HB.out hx213_16;replace p213:=eq_true p213;replace q213:=eq_true q213
      go_upto_if 18 with (first|((with_reducible refine gate_callee (f:=29) rfl ?_);refine goesL_ (some 17) rfl rfl Try.func29 (by kernel_rfl) rfl #[.agg #[I L ((rd_T65 l0 x3_1).f0),I L ((rd_T65 l0 x3_1).f1.f0.f0),I L ((rd_T65 l0 x3_1).f1.f0.f1),I L ((rd_T65 l0 x3_1).f1.f0.f2),I L ((rd_T65 l0 x3_1).f1.f0.f3),I L ((rd_T65 l0 x3_1).f1.f0.f4),I L ((rd_T65 l0 x3_1).f1.f1),I L ((rd_T65 l0 x3_1).f2.f0.f0),I L ((rd_T65 l0 x3_1).f2.f0.f1),I L ((rd_T65 l0 x3_1).f2.f0.f2),I L ((rd_T65 l0 x3_1).f2.f0.f3),I L ((rd_T65 l0 x3_1).f2.f0.f4),I L ((rd_T65 l0 x3_1).f2.f1),I L ((rd_T65 l0 x3_1).f3),I L ((rd_T65 l0 x3_1).f4),I L ((rd_T65 l0 x3_1).f5),I L ((rd_T65 l0 x3_1).f6)]] rfl Z6 ?_;(with_reducible refine (spec_ModuleOk.calls k1 ((rd_T65 l0 x3_1).f0) ((rd_T65 l0 x3_1).f1.f0.f0) ((rd_T65 l0 x3_1).f1.f0.f1) ((rd_T65 l0 x3_1).f1.f0.f2) ((rd_T65 l0 x3_1).f1.f0.f3) ((rd_T65 l0 x3_1).f1.f0.f4) ((rd_T65 l0 x3_1).f1.f1) ((rd_T65 l0 x3_1).f2.f0.f0) ((rd_T65 l0 x3_1).f2.f0.f1) ((rd_T65 l0 x3_1).f2.f0.f2) ((rd_T65 l0 x3_1).f2.f0.f3) ((rd_T65 l0 x3_1).f2.f0.f4) ((rd_T65 l0 x3_1).f2.f1) ((rd_T65 l0 x3_1).f3) ((rd_T65 l0 x3_1).f4) ((rd_T65 l0 x3_1).f5) ((rd_T65 l0 x3_1).f6) t214 _ A5.out).mono ?_);rintro e w7 ⟨rfl,hb⟩;refine ⟨_,rfl,?_⟩;have n0_:=D (below_step (pB_ HB.out) hb);clear HB;have HB:=n0_;clear n0_;(try clear hb)))
      have H := HU6.out; clear HU6
      by_cases c8 : t214 = true
      ·subst c8
       rw [if_pos rfl] at H; have H' := D H; clear H
       go_wp2
       go_roundg k1
       case measure => have := HK1.out; omega
       case rel => exact ⟨(wrap64 (x3_1 + 1)), Z11, H', ⟨by have := HK1.out; omega⟩, ⟨pB_ HB.out⟩⟩
      ·replace c8 := Bool.eq_false_iff.mpr c8
       subst c8; rw [if_neg (show ¬ (false = true) by decide)] at H; obtain rfl := Option.some.inj H
       go_wp2
       go_ret; exact ⟨er_, pB_ HB.out⟩
     ·rw [if_neg c4] at H
      exact absurd H (by simp)
    ·rw [if_neg c3] at H
     have c3b0 : decide (x3_1 < (l0.length : Int)) = false := decide_eq_false c3; clear c3; obtain rfl := Option.some.inj H
     go_wp2
     go_ret; exact ⟨er_, pB_ HB.out⟩

end Go.Proofs.Ytjhgkonacdimfab.PFnExactCmdOk
