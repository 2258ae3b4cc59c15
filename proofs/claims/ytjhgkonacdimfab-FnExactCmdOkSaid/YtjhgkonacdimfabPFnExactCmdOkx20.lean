-- by a program of this session's, over the kit's words
import Derived.Test.YtjhgkonacdimfabPZFnExactCmdOk
import Derived.Test.YtjhgkonacdimfabPFnExactCmdOkx0
import Derived.Test.YtjhgkonacdimfabPFnExactCmdOkx16
import Derived.Test.YtjhgkonacdimfabPFnExactCmdOkx18
namespace Go.Proofs.Ytjhgkonacdimfab.PFnExactCmdOk
open Go.RowKit Go.Proofs.YtjhgkonacdimfabW.PrintWords Go.Proofs.YtjhgkonacdimfabW.PrintLast Go.Proofs.YtjhgkonacdimfabW.PrintMore Go.Proofs.YtjhgkonacdimfabV Go.Proofs.Ytjhgkonacdimfab.ZFnExactCmdOk
open Go.Value renaming int → I, slice → Y
open Go.IntKind renaming i64 → L
open Aside0 renaming mk → D
open Option renaming bind_eq_some_iff → bs_
attribute [local go_sem] max2_int min2_int max_two min_two max_three min_three max_four min_four   -- for this text's walks alone
set_option linter.unusedVariables false
set_option linter.unusedSimpArgs false

/-! ### impl_LimitsOk: function 22 -/
def impl_LimitsOk.f (a0_0 a0_1 a0_2 a0_3 : Int) (a0_4 : Bool) : Option (Bool) := (impl_within.f a0_0 1 64).bind fun t434 => (if t434 = true then ((impl_within.f a0_1 1 100000).bind fun t435 => (if t435 = true then ((impl_within.f a0_2 1 1000000).bind fun t436 => (if t436 = true then ((impl_within.f a0_3 0 100000).bind fun t437 => (some t437)) else (some false))) else (some false))) else (some false))
set_option maxHeartbeats 8000000 in
set_option maxRecDepth 100000 in
theorem impl_LimitsOk.calls (a0_0 a0_1 a0_2 a0_3 : Int) (a0_4 r : Bool) (w : World) (h : impl_LimitsOk.f a0_0 a0_1 a0_2 a0_3 a0_4 = some r) :
  Calls Try.prog 22 #[.agg #[I L a0_0, I L a0_1, I L a0_2, I L a0_3, .bool a0_4]] w fun e w' => e = .returned (.bool r) ∧ Below w.heap.size w w' := by
 have hu40 := Try.underlying40
 have HB := D (Below.refl w.heap.size w)
 have H:((impl_within.f a0_0 1 64).bind fun t434=>(if t434=true then ((impl_within.f a0_1 1 100000).bind fun t435=>(if t435=true then ((impl_within.f a0_2 1 1000000).bind fun t436=>(if t436=true then ((impl_within.f a0_3 0 100000).bind fun t437=>(some t437)) else (some false))) else (some false))) else (some false)))=some r:=h
 clear h
 obtain ⟨t434, A20, H⟩ := bs_.mp H
 (try dsimp only at H)
 have A2 := D A20
 clear A20
 by_cases c3 : t434 = true
 ·subst c3
  rw [if_pos rfl] at H; obtain ⟨t435, A40, H⟩ := bs_.mp H; (try dsimp only at H); have A4 := D A40; clear A40
  by_cases c5 : t435 = true
  ·subst c5
   rw [if_pos rfl] at H; obtain ⟨t436, A60, H⟩ := bs_.mp H; (try dsimp only at H); have A6 := D A60; clear A60
   by_cases c7 : t436 = true
   ·subst c7
    rw [if_pos rfl] at H;obtain ⟨t437,A80,H⟩:=bs_.mp H;(try dsimp only at H);have A8:=D A80;clear A80;obtain rfl:=Option.some.inj H;go_enter Try.func22,Try.ntmps22
    go_wp2_with (first|((with_reducible refine gate_dst (N:=1) rfl ?_);refine bx_ (N:=1) (cs:=#[I L a0_0,I L a0_1,I L a0_2,I L a0_3,.bool a0_4]) (t:=40) ?_;intro gb433 hg w9 hbox hb;have n_:=an_ (below_step (pB_ HB.out) hb)<|an_ (hbox)<|an_ (bg_ hg (pB_ HB.out):w.heap.size≤gb433)<|D (bg_ hg (pB_ HB.out):w.heap.size≤gb433);clear HB;obtain ⟨HB,BK433,GW433,GE433⟩:=n_;clear hb hbox hg;have hcz10_0:=cells5 BK433.out)|((with_reducible refine gate_callee (f:=18) rfl ?_);refine goesL_ (some 5) rfl rfl Try.func18 (by kernel_rfl) rfl #[I L a0_0,I L 1,I L 64] rfl Z6 ?_;(with_reducible refine (impl_within.calls a0_0 1 64 true _ A2.out).mono ?_);rintro e w' ⟨rfl,⟨nd,rfl⟩⟩;refine ⟨_,rfl,?_⟩)|(go_at_call 18;(with_reducible refine (impl_within.calls a0_1 1 100000 true _ A4.out).mono ?_);rintro e w' ⟨rfl,⟨nd,rfl⟩⟩)|(go_at_call 18;(with_reducible refine (impl_within.calls a0_2 1 1000000 true _ A6.out).mono ?_);rintro e w' ⟨rfl,⟨nd,rfl⟩⟩)|(go_at_call 18;(with_reducible refine (impl_within.calls a0_3 0 100000 t437 _ A8.out).mono ?_);rintro e w' ⟨rfl,⟨nd,rfl⟩⟩))
    go_ret; exact ⟨er_, pB_ HB.out⟩
   ·replace c7 := Bool.eq_false_iff.mpr c7
    subst c7; rw [if_neg (show ¬ (false = true) by decide)] at H; obtain rfl := Option.some.inj H; go_enter Try.func22, Try.ntmps22
    go_wp2_with (first|((with_reducible refine gate_dst (N:=1) rfl ?_);refine bx_ (N:=1) (cs:=#[I L a0_0,I L a0_1,I L a0_2,I L a0_3,.bool a0_4]) (t:=40) ?_;intro gb433 hg w11 hbox hb;have n_:=an_ (below_step (pB_ HB.out) hb)<|an_ (hbox)<|an_ (bg_ hg (pB_ HB.out):w.heap.size≤gb433)<|D (bg_ hg (pB_ HB.out):w.heap.size≤gb433);clear HB;obtain ⟨HB,BK433,GW433,GE433⟩:=n_;clear hb hbox hg;have hcz12_0:=cells5 BK433.out)|((with_reducible refine gate_callee (f:=18) rfl ?_);refine goesL_ (some 5) rfl rfl Try.func18 (by kernel_rfl) rfl #[I L a0_0,I L 1,I L 64] rfl Z6 ?_;(with_reducible refine (impl_within.calls a0_0 1 64 true _ A2.out).mono ?_);rintro e w' ⟨rfl,⟨nd,rfl⟩⟩;refine ⟨_,rfl,?_⟩)|(go_at_call 18;(with_reducible refine (impl_within.calls a0_1 1 100000 true _ A4.out).mono ?_);rintro e w' ⟨rfl,⟨nd,rfl⟩⟩)|(go_at_call 18;(with_reducible refine (impl_within.calls a0_2 1 1000000 false _ A6.out).mono ?_);rintro e w' ⟨rfl,⟨nd,rfl⟩⟩))
    go_ret; exact ⟨er_, pB_ HB.out⟩
  ·replace c5 := Bool.eq_false_iff.mpr c5
   subst c5; rw [if_neg (show ¬ (false = true) by decide)] at H; obtain rfl := Option.some.inj H; go_enter Try.func22, Try.ntmps22
   go_wp2_with (first|((with_reducible refine gate_dst (N:=1) rfl ?_);refine bx_ (N:=1) (cs:=#[I L a0_0,I L a0_1,I L a0_2,I L a0_3,.bool a0_4]) (t:=40) ?_;intro gb433 hg w13 hbox hb;have n_:=an_ (below_step (pB_ HB.out) hb)<|an_ (hbox)<|an_ (bg_ hg (pB_ HB.out):w.heap.size≤gb433)<|D (bg_ hg (pB_ HB.out):w.heap.size≤gb433);clear HB;obtain ⟨HB,BK433,GW433,GE433⟩:=n_;clear hb hbox hg;have hcz14_0:=cells5 BK433.out)|((with_reducible refine gate_callee (f:=18) rfl ?_);refine goesL_ (some 5) rfl rfl Try.func18 (by kernel_rfl) rfl #[I L a0_0,I L 1,I L 64] rfl Z6 ?_;(with_reducible refine (impl_within.calls a0_0 1 64 true _ A2.out).mono ?_);rintro e w' ⟨rfl,⟨nd,rfl⟩⟩;refine ⟨_,rfl,?_⟩)|(go_at_call 18;(with_reducible refine (impl_within.calls a0_1 1 100000 false _ A4.out).mono ?_);rintro e w' ⟨rfl,⟨nd,rfl⟩⟩))
   go_ret; exact ⟨er_, pB_ HB.out⟩
 ·replace c3 := Bool.eq_false_iff.mpr c3
  subst c3; rw [if_neg (show ¬ (false = true) by decide)] at H; obtain rfl := Option.some.inj H; go_enter Try.func22, Try.ntmps22
  go_wp2_with (first|((with_reducible refine gate_dst (N:=1) rfl ?_);refine bx_ (N:=1) (cs:=#[I L a0_0,I L a0_1,I L a0_2,I L a0_3,.bool a0_4]) (t:=40) ?_;intro gb433 hg w15 hbox hb;have n_:=an_ (below_step (pB_ HB.out) hb)<|an_ (hbox)<|an_ (bg_ hg (pB_ HB.out):w.heap.size≤gb433)<|D (bg_ hg (pB_ HB.out):w.heap.size≤gb433);clear HB;obtain ⟨HB,BK433,GW433,GE433⟩:=n_;clear hb hbox hg;have hcz16_0:=cells5 BK433.out)|((with_reducible refine gate_callee (f:=18) rfl ?_);refine goesL_ (some 5) rfl rfl Try.func18 (by kernel_rfl) rfl #[I L a0_0,I L 1,I L 64] rfl Z6 ?_;(with_reducible refine (impl_within.calls a0_0 1 64 false _ A2.out).mono ?_);rintro e w' ⟨rfl,⟨nd,rfl⟩⟩;refine ⟨_,rfl,?_⟩))
  go_ret; exact ⟨er_, pB_ HB.out⟩

/-! ### slices_IndexFunc_impl_Module_impl_Module: function 52 -/
def slices_IndexFunc_impl_Module_impl_Module.l0 : Nat → List (S65) → (Int → Int → Int → Int → Int → Int → Int → Int → Int → Int → Int → Int → Int → Int → Int → Int → Int → Option (Bool)) → Int → Int → Option (Int)
 | 0, _, _, _, _ => none
 | k + 1,x0,x1,x7,x8=>if x8 < x7 then (if 0≤x8 then (if x8 < (x0.length:Int) then ((x1 ((rd_T65 x0 x8).f0) ((rd_T65 x0 x8).f1.f0.f0) ((rd_T65 x0 x8).f1.f0.f1) ((rd_T65 x0 x8).f1.f0.f2) ((rd_T65 x0 x8).f1.f0.f3) ((rd_T65 x0 x8).f1.f0.f4) ((rd_T65 x0 x8).f1.f1) ((rd_T65 x0 x8).f2.f0.f0) ((rd_T65 x0 x8).f2.f0.f1) ((rd_T65 x0 x8).f2.f0.f2) ((rd_T65 x0 x8).f2.f0.f3) ((rd_T65 x0 x8).f2.f0.f4) ((rd_T65 x0 x8).f2.f1) ((rd_T65 x0 x8).f3) ((rd_T65 x0 x8).f4) ((rd_T65 x0 x8).f5) ((rd_T65 x0 x8).f6)).bind fun t439=>(if t439=true then (some x8) else (slices_IndexFunc_impl_Module_impl_Module.l0 k x0 x1 x7 (wrap64 (x8 + 1))))) else (none)) else (none)) else (some (-1))
def slices_IndexFunc_impl_Module_impl_Module.f (k : Nat) (l0 : List (S65)) (a1 : (Int → Int → Int → Int → Int → Int → Int → Int → Int → Int → Int → Int → Int → Int → Int → Int → Int → Option (Bool))) : Option (Int) := slices_IndexFunc_impl_Module_impl_Module.l0 k l0 a1 (l0.length : Int) 0
set_option maxHeartbeats 8000000 in
set_option maxRecDepth 100000 in
theorem slices_IndexFunc_impl_Module_impl_Module.calls (k : Nat) (A0 : Option Addr) (c0 : Nat) (l0 : List (S65)) (a1 : (Int → Int → Int → Int → Int → Int → Int → Int → Int → Int → Int → Int → Int → Int → Int → Int → Int → Option (Bool))) (fn1 : Nat) (cp1 : Array Value) (r : Int) (w : World) (hr0 : Kd.C k65 w A0 l0.length l0) (hc0 : l0.length ≤ c0) (hq1 : Aside0 (∃ F_, Try.prog.funcs[fn1]? = some F_ ∧ (F_.name == "runtime.NumGoroutine") = false ∧ F_.body.isSome = true)) (HP1_52 : Aside0 (∀ (a900_0 a900_1 a900_2 a900_3 a900_4 a900_5 a900_6 a900_7 a900_8 a900_9 a900_10 a900_11 a900_12 a900_13 a900_14 a900_15 a900_16 : Int) (rr0_ : Bool) (W_ : World), Below w.heap.size w W_ → a1 a900_0 a900_1 a900_2 a900_3 a900_4 a900_5 a900_6 a900_7 a900_8 a900_9 a900_10 a900_11 a900_12 a900_13 a900_14 a900_15 a900_16 = some rr0_ → Calls Try.prog fn1 (#[.agg #[I L a900_0, I L a900_1, I L a900_2, I L a900_3, I L a900_4, I L a900_5, I L a900_6, I L a900_7, I L a900_8, I L a900_9, I L a900_10, I L a900_11, I L a900_12, I L a900_13, I L a900_14, I L a900_15, I L a900_16]] ++ cp1) W_ (fun e w' => e = .returned (.bool rr0_) ∧ Below W_.heap.size W_ w'))) (h : slices_IndexFunc_impl_Module_impl_Module.f k l0 a1 = some r) :
  Calls Try.prog 52 #[Y A0 l0.length c0, .func (.func fn1) #[] cp1] w fun e w' => e = .returned (I L r) ∧ Below w.heap.size w w' := by
 have hu65 := Try.underlying65
 have HR0 := D hr0
 have HC0 := D hc0
 clear hr0 hc0
 have HB := D (Below.refl w.heap.size w)
 have H : (slices_IndexFunc_impl_Module_impl_Module.l0 k l0 a1 (l0.length : Int) 0) = some r := h
 clear h
 have H' := D H
 clear H
 go_enter Try.func52, Try.ntmps52
 go_wp2
 go_loopg [8] k (fun kq v8 w'=>∃ (x8_1:Int),v8=I L x8_1∧Aside0 (slices_IndexFunc_impl_Module_impl_Module.l0 kq l0 a1 (l0.length:Int) x8_1=some r)∧Aside0 (kq≤k)∧Aside0 (Below w.heap.size w w'))
 case atStart => exact ⟨(0), Z11, H', ⟨Nat.le_refl _⟩, ⟨pB_ HB.out⟩⟩
 case round =>
  clear H'
  try clear p2
  obtain ⟨x8_1, rfl, HA, HK1, HB⟩ := hrel
  cases gk with
  | zero => exact absurd HA.out (by simp [slices_IndexFunc_impl_Module_impl_Module.l0])
  | succ k1 =>
   have H := HA.out; clear HA; simp only [slices_IndexFunc_impl_Module_impl_Module.l0] at H
   by_cases c3 : x8_1 < (l0.length : Int)
   ·rw [if_pos c3] at H
    have c3b0 : decide (x8_1 < (l0.length : Int)) = true := decide_eq_true c3; clear c3
    by_cases c4 : 0 ≤ x8_1
    ·rw [if_pos c4] at H
     have c4b0 : decide (0 ≤ x8_1) = true := decide_eq_true c4; clear c4
     by_cases c5 : x8_1 < (l0.length : Int)
     ·rw [if_pos c5] at H
      have c5b0:decide (x8_1 < (l0.length:Int))=true:=decide_eq_true c5;clear c5;obtain ⟨t439,A60,H⟩:=bs_.mp H;(try dsimp only at H);have A6:=D A60;clear A60;have HU7:=D H;clear H;have p438:0≤(x8_1:Int):=od_ Z10;have q438:x8_1 < (l0.length:Int):=od_ Z10;obtain ⟨ad438,e438,hx438_0,hx438_1,hx438_2,hx438_3,hx438_4,hx438_5,hx438_6,hx438_7,hx438_8,hx438_9,hx438_10,hx438_11,hx438_12,hx438_13,hx438_14,hx438_15,hx438_16⟩:=at_T65 HR0.out x8_1 p438 q438;cases e438;replace hx438_0:=rc_ HB.out hx438_0;replace hx438_1:=rc_ HB.out hx438_1;replace hx438_2:=rc_ HB.out hx438_2;replace hx438_3:=rc_ HB.out hx438_3;replace hx438_4:=rc_ HB.out hx438_4;replace hx438_5:=rc_ HB.out hx438_5;replace hx438_6:=rc_ HB.out hx438_6;replace hx438_7:=rc_ HB.out hx438_7;replace hx438_8:=rc_ HB.out hx438_8;replace hx438_9:=rc_ HB.out hx438_9;replace hx438_10:=rc_ HB.out hx438_10;replace hx438_11:=rc_ HB.out hx438_11;replace hx438_12:=rc_ HB.out hx438_12;replace hx438_13:=rc_ HB.out hx438_13;replace hx438_14:=rc_ HB.out hx438_14;replace hx438_15:=rc_ HB.out hx438_15;replace hx438_16:=rc_ HB.out hx438_16;replace p438:=eq_true p438;replace q438:=eq_true q438
      go_upto_if 16 with (first|((with_reducible refine gate_calleeV (j:=11) rfl ?_);obtain ⟨_,hF1_,hF2_,hF3_⟩:=hq1.out;refine goesVL_ (some 16) rfl rfl hF1_ hF2_ hF3_ #[.agg #[I L ((rd_T65 l0 x8_1).f0),I L ((rd_T65 l0 x8_1).f1.f0.f0),I L ((rd_T65 l0 x8_1).f1.f0.f1),I L ((rd_T65 l0 x8_1).f1.f0.f2),I L ((rd_T65 l0 x8_1).f1.f0.f3),I L ((rd_T65 l0 x8_1).f1.f0.f4),I L ((rd_T65 l0 x8_1).f1.f1),I L ((rd_T65 l0 x8_1).f2.f0.f0),I L ((rd_T65 l0 x8_1).f2.f0.f1),I L ((rd_T65 l0 x8_1).f2.f0.f2),I L ((rd_T65 l0 x8_1).f2.f0.f3),I L ((rd_T65 l0 x8_1).f2.f0.f4),I L ((rd_T65 l0 x8_1).f2.f1),I L ((rd_T65 l0 x8_1).f3),I L ((rd_T65 l0 x8_1).f4),I L ((rd_T65 l0 x8_1).f5),I L ((rd_T65 l0 x8_1).f6)]] (cp:=cp1) rfl (by first|rfl|(go_simp;done)|simp) Z6 ?_;(with_reducible refine (HP1_52.out ((rd_T65 l0 x8_1).f0) ((rd_T65 l0 x8_1).f1.f0.f0) ((rd_T65 l0 x8_1).f1.f0.f1) ((rd_T65 l0 x8_1).f1.f0.f2) ((rd_T65 l0 x8_1).f1.f0.f3) ((rd_T65 l0 x8_1).f1.f0.f4) ((rd_T65 l0 x8_1).f1.f1) ((rd_T65 l0 x8_1).f2.f0.f0) ((rd_T65 l0 x8_1).f2.f0.f1) ((rd_T65 l0 x8_1).f2.f0.f2) ((rd_T65 l0 x8_1).f2.f0.f3) ((rd_T65 l0 x8_1).f2.f0.f4) ((rd_T65 l0 x8_1).f2.f1) ((rd_T65 l0 x8_1).f3) ((rd_T65 l0 x8_1).f4) ((rd_T65 l0 x8_1).f5) ((rd_T65 l0 x8_1).f6) t439 _ ?side1 A6.out).mono ?_);(case side1=>exact pB_ HB.out);rintro e w8 ⟨rfl,hb⟩;refine ⟨_,rfl,?_⟩;have n0_:=D (below_step (pB_ HB.out) hb);clear HB;have HB:=n0_;clear n0_;(try clear hb)))
      have H := HU7.out; clear HU7
      by_cases c9 : t439 = true
      ·subst c9
       rw [if_pos rfl] at H; obtain rfl := Option.some.inj H
       go_wp2
       go_ret; exact ⟨er_, pB_ HB.out⟩
      ·replace c9 := Bool.eq_false_iff.mpr c9
       subst c9; rw [if_neg (show ¬ (false = true) by decide)] at H; have H' := D H; clear H
       go_wp2
       go_roundg k1
       case measure => have := HK1.out; omega
       case rel => exact ⟨(wrap64 (x8_1 + 1)), Z11, H', ⟨by have := HK1.out; omega⟩, ⟨pB_ HB.out⟩⟩
     ·rw [if_neg c5] at H
      exact absurd H (by simp)
    ·rw [if_neg c4] at H
     exact absurd H (by simp)
   ·rw [if_neg c3] at H
    have c3b0 : decide (x8_1 < (l0.length : Int)) = false := decide_eq_false c3; clear c3; obtain rfl := Option.some.inj H
    go_wp2
    go_ret; exact ⟨er_, pB_ HB.out⟩

/-! ### slices_ContainsFunc_impl_Module_impl_Module: function 36 -/
def slices_ContainsFunc_impl_Module_impl_Module.f (k : Nat) (l0 : List (S65)) (a1 : (Int → Int → Int → Int → Int → Int → Int → Int → Int → Int → Int → Int → Int → Int → Int → Int → Int → Option (Bool))) : Option (Bool) := (slices_IndexFunc_impl_Module_impl_Module.f k l0 a1).bind fun t440 => (some (decide (t440 ≥ 0)))
set_option maxHeartbeats 8000000 in
set_option maxRecDepth 100000 in
theorem slices_ContainsFunc_impl_Module_impl_Module.calls (k : Nat) (A0 : Option Addr) (c0 : Nat) (l0 : List (S65)) (a1 : (Int → Int → Int → Int → Int → Int → Int → Int → Int → Int → Int → Int → Int → Int → Int → Int → Int → Option (Bool))) (fn1 : Nat) (cp1 : Array Value) (r : Bool) (w : World) (hr0 : Kd.C k65 w A0 l0.length l0) (hc0 : l0.length ≤ c0) (hq1 : Aside0 (∃ F_, Try.prog.funcs[fn1]? = some F_ ∧ (F_.name == "runtime.NumGoroutine") = false ∧ F_.body.isSome = true)) (HP1_36 : Aside0 (∀ (a900_0 a900_1 a900_2 a900_3 a900_4 a900_5 a900_6 a900_7 a900_8 a900_9 a900_10 a900_11 a900_12 a900_13 a900_14 a900_15 a900_16 : Int) (rr0_ : Bool) (W_ : World), Below w.heap.size w W_ → a1 a900_0 a900_1 a900_2 a900_3 a900_4 a900_5 a900_6 a900_7 a900_8 a900_9 a900_10 a900_11 a900_12 a900_13 a900_14 a900_15 a900_16 = some rr0_ → Calls Try.prog fn1 (#[.agg #[I L a900_0, I L a900_1, I L a900_2, I L a900_3, I L a900_4, I L a900_5, I L a900_6, I L a900_7, I L a900_8, I L a900_9, I L a900_10, I L a900_11, I L a900_12, I L a900_13, I L a900_14, I L a900_15, I L a900_16]] ++ cp1) W_ (fun e w' => e = .returned (.bool rr0_) ∧ Below W_.heap.size W_ w'))) (h : slices_ContainsFunc_impl_Module_impl_Module.f k l0 a1 = some r) :
  Calls Try.prog 36 #[Y A0 l0.length c0, .func (.func fn1) #[] cp1] w fun e w' => e = .returned (.bool r) ∧ Below w.heap.size w w' := by
 have HR0 := D hr0
 have HC0 := D hc0
 clear hr0 hc0
 have HB := D (Below.refl w.heap.size w)
 have H : ((slices_IndexFunc_impl_Module_impl_Module.f k l0 a1).bind fun t440 => (some (decide (t440 ≥ 0)))) = some r := h
 clear h
 obtain ⟨t440, A30, H⟩ := bs_.mp H
 (try dsimp only at H)
 have A3 := D A30
 clear A30
 obtain rfl := Option.some.inj H
 go_enter Try.func36, Try.ntmps36
 go_wp2_with (first|((with_reducible refine gate_callee (f:=52) rfl ?_);refine goesL_ (some 7) rfl rfl Try.func52 (by kernel_rfl) rfl #[Y A0 l0.length c0,.func (.func fn1) #[] cp1] rfl Z6 ?_;(with_reducible refine (slices_IndexFunc_impl_Module_impl_Module.calls k _ _ l0 a1 fn1 cp1 t440 _ ?side1 ?side2 ?side3 ?side4 A3.out).mono ?_);(case side1=>exact pC_ HR0.out);(case side2=>exact HC0.out);(case side3=>exact hq1);(case side4=>refine ⟨?_⟩;intro a900_0 a900_1 a900_2 a900_3 a900_4 a900_5 a900_6 a900_7 a900_8 a900_9 a900_10 a900_11 a900_12 a900_13 a900_14 a900_15 a900_16 rr0_ W_ hW_ h_;exact HP1_36.out a900_0 a900_1 a900_2 a900_3 a900_4 a900_5 a900_6 a900_7 a900_8 a900_9 a900_10 a900_11 a900_12 a900_13 a900_14 a900_15 a900_16 rr0_ W_ (below_step (pB_ HB.out) hW_) h_);rintro e w4 ⟨rfl,hb⟩;refine ⟨_,rfl,?_⟩;have n0_:=D (below_step (pB_ HB.out) hb);clear HB;have HB:=n0_;clear n0_;(try clear hb)))
 go_ret
 exact ⟨er_, pB_ HB.out⟩

/-! ### impl_arePairOf: function 53 -/
def impl_arePairOf.f (k : Nat) (a0_0 a0_1 a0_2 a0_3 a0_4 a0_5 a1_0 a1_1 a1_2 a1_3 a1_4 a1_5 : Int) : Option (Bool) := (impl_PrefixOk.f k a0_0 a0_1 a0_2 a0_3 a0_4 a0_5).bind fun t443 => (if t443 = true then ((impl_PrefixOk.f k a1_0 a1_1 a1_2 a1_3 a1_4 a1_5).bind fun t444 => (if t444 = true then ((impl_isAny.f a0_0 a0_1 a0_2 a0_3 a0_4 a0_5).bind fun t445 => (if t445 = true then (some false) else ((impl_isAny.f a1_0 a1_1 a1_2 a1_3 a1_4 a1_5).bind fun t446 => (if t446 = true then (some false) else (if a0_0 = a1_0 then (some (a0_5 == a1_5)) else (some false)))))) else (some false))) else (some false))
set_option maxHeartbeats 8000000 in
set_option maxRecDepth 100000 in
theorem impl_arePairOf.calls (k : Nat) (a0_0 a0_1 a0_2 a0_3 a0_4 a0_5 a1_0 a1_1 a1_2 a1_3 a1_4 a1_5 : Int) (r : Bool) (w : World) (h : impl_arePairOf.f k a0_0 a0_1 a0_2 a0_3 a0_4 a0_5 a1_0 a1_1 a1_2 a1_3 a1_4 a1_5 = some r) :
  Calls Try.prog 53 #[.agg #[I L a0_0,I L a0_1,I L a0_2,I L a0_3,I L a0_4,I L a0_5],.agg #[I L a1_0,I L a1_1,I L a1_2,I L a1_3,I L a1_4,I L a1_5]] w fun e w'=>e=.returned (.bool r)∧Below w.heap.size w w':=by
 have hu37 := Try.underlying37
 have HB := D (Below.refl w.heap.size w)
 have H:((impl_PrefixOk.f k a0_0 a0_1 a0_2 a0_3 a0_4 a0_5).bind fun Ub=>(if Ub=true then ((impl_PrefixOk.f k a1_0 a1_1 a1_2 a1_3 a1_4 a1_5).bind fun Xb=>(if Xb=true then ((impl_isAny.f a0_0 a0_1 a0_2 a0_3 a0_4 a0_5).bind fun Jc=>(if Jc=true then (some false) else ((impl_isAny.f a1_0 a1_1 a1_2 a1_3 a1_4 a1_5).bind fun Kc=>(if Kc=true then (some false) else (if a0_0=a1_0 then (some (a0_5 == a1_5)) else (some false)))))) else (some false))) else (some false)))=some r:=h
 clear h
 obtain ⟨Ub, A30, H⟩ := bs_.mp H
 (try dsimp only at H)
 have A3 := D A30
 clear A30
 by_cases c4 : Ub = true
 ·subst c4
  rw [if_pos rfl] at H; obtain ⟨Xb, A50, H⟩ := bs_.mp H; (try dsimp only at H); have A5 := D A50; clear A50
  by_cases c6 : Xb = true
  ·subst c6
   rw [if_pos rfl] at H; obtain ⟨Jc, A70, H⟩ := bs_.mp H; (try dsimp only at H); have A7 := D A70; clear A70
   by_cases c8 : Jc = true
   ·subst c8
    rw [if_pos rfl] at H; obtain rfl := Option.some.inj H; go_enter Try.func53, Try.ntmps53
    go_wp2_with (first|((with_reducible refine gate_dst (N:=2) rfl ?_);refine bx_ (N:=2) (cs:=#[I L a0_0,I L a0_1,I L a0_2,I L a0_3,I L a0_4,I L a0_5]) (t:=37) ?_;intro Ma hg w9 hbox hb;have n_:=an_ (below_step (pB_ HB.out) hb)<|an_ (hbox)<|an_ (bg_ hg (pB_ HB.out):w.heap.size≤Ma)<|D (bg_ hg (pB_ HB.out):w.heap.size≤Ma);clear HB;obtain ⟨HB,Ja,Jb,Kb⟩:=n_;clear hb hbox hg)|((with_reducible refine gate_dst (N:=3) rfl ?_);refine bx_ (N:=3) (cs:=#[I L a1_0,I L a1_1,I L a1_2,I L a1_3,I L a1_4,I L a1_5]) (t:=37) ?_;intro Oa hg w10 hbox hb;have n_:=an_ (blk_below (pk_ Ja.out) hb)<|an_ (below_step (pB_ HB.out) hb)<|an_ (hbox)<|an_ (bg_ hg (pB_ HB.out):w.heap.size≤Oa)<|an_ (bg_ hg (pB_ HB.out):w.heap.size≤Oa)<|an_ (nl_ hg (pk_ Ja.out):Ma≠Oa)<|D (by rw [hg];exact Nat.ne_of_gt (blk_lt (pk_ Ja.out)):Oa≠Ma);clear Ja HB;obtain ⟨Ja,HB,Ka,Mb,Ob,Ua,Xa⟩:=n_;clear hb hbox hg;(try have:=Ua.out);(try have:=Xa.out);have Mc:=cells6 Ja.out)|((with_reducible refine gate_callee (f:=34) rfl ?_);refine goesL_ (some 6) rfl rfl Try.func34 (by kernel_rfl) rfl #[.agg #[I L a0_0,I L a0_1,I L a0_2,I L a0_3,I L a0_4,I L a0_5]] rfl Z6 ?_;(with_reducible refine (impl_PrefixOk.calls k a0_0 a0_1 a0_2 a0_3 a0_4 a0_5 true _ A3.out).mono ?_);rintro e w13 ⟨rfl,hb⟩;refine ⟨_,rfl,?_⟩;have n_:=an_ (blk_below (pk_ Ja.out) hb)<|an_ (blk_below (pk_ Ka.out) hb)<|D (below_step (pB_ HB.out) hb);clear Ja Ka HB;obtain ⟨Ja,Ka,HB⟩:=n_;(try clear hb);have Me:=cells6 Ka.out)|(go_at_call 34;(with_reducible refine (impl_PrefixOk.calls k a1_0 a1_1 a1_2 a1_3 a1_4 a1_5 true _ A5.out).mono ?_);rintro e w15 ⟨rfl,hb⟩;have n_:=an_ (blk_below (pk_ Ja.out) hb)<|an_ (blk_below (pk_ Ka.out) hb)<|D (below_step (pB_ HB.out) hb);clear Ja Ka HB;obtain ⟨Ja,Ka,HB⟩:=n_;(try clear hb);have Mg:=cells6 Ja.out)|(go_at_call 48;(with_reducible refine (impl_isAny.calls a0_0 a0_1 a0_2 a0_3 a0_4 a0_5 true _ A7.out).mono ?_);rintro e w17 ⟨rfl,hb⟩;have n_:=an_ (blk_below (pk_ Ja.out) hb)<|an_ (blk_below (pk_ Ka.out) hb)<|D (below_step (pB_ HB.out) hb);clear Ja Ka HB;obtain ⟨Ja,Ka,HB⟩:=n_;(try clear hb)))
    go_ret; exact ⟨er_, pB_ HB.out⟩
   ·replace c8 := Bool.eq_false_iff.mpr c8
    subst c8; rw [if_neg (show ¬ (false = true) by decide)] at H; obtain ⟨Kc, A180, H⟩ := bs_.mp H; (try dsimp only at H); have A18 := D A180; clear A180
    by_cases c19 : Kc = true
    ·subst c19
     rw [if_pos rfl] at H; obtain rfl := Option.some.inj H; go_enter Try.func53, Try.ntmps53
     go_wp2_with (first|((with_reducible refine gate_dst (N:=2) rfl ?_);refine bx_ (N:=2) (cs:=#[I L a0_0,I L a0_1,I L a0_2,I L a0_3,I L a0_4,I L a0_5]) (t:=37) ?_;intro Ma hg w20 hbox hb;have n_:=an_ (below_step (pB_ HB.out) hb)<|an_ (hbox)<|an_ (bg_ hg (pB_ HB.out):w.heap.size≤Ma)<|D (bg_ hg (pB_ HB.out):w.heap.size≤Ma);clear HB;obtain ⟨HB,Ja,Jb,Kb⟩:=n_;clear hb hbox hg)|((with_reducible refine gate_dst (N:=3) rfl ?_);refine bx_ (N:=3) (cs:=#[I L a1_0,I L a1_1,I L a1_2,I L a1_3,I L a1_4,I L a1_5]) (t:=37) ?_;intro Oa hg w21 hbox hb;have n_:=an_ (blk_below (pk_ Ja.out) hb)<|an_ (below_step (pB_ HB.out) hb)<|an_ (hbox)<|an_ (bg_ hg (pB_ HB.out):w.heap.size≤Oa)<|an_ (bg_ hg (pB_ HB.out):w.heap.size≤Oa)<|an_ (nl_ hg (pk_ Ja.out):Ma≠Oa)<|D (by rw [hg];exact Nat.ne_of_gt (blk_lt (pk_ Ja.out)):Oa≠Ma);clear Ja HB;obtain ⟨Ja,HB,Ka,Mb,Ob,Ua,Xa⟩:=n_;clear hb hbox hg;(try have:=Ua.out);(try have:=Xa.out);have Mi:=cells6 Ja.out)|((with_reducible refine gate_callee (f:=34) rfl ?_);refine goesL_ (some 6) rfl rfl Try.func34 (by kernel_rfl) rfl #[.agg #[I L a0_0,I L a0_1,I L a0_2,I L a0_3,I L a0_4,I L a0_5]] rfl Z6 ?_;(with_reducible refine (impl_PrefixOk.calls k a0_0 a0_1 a0_2 a0_3 a0_4 a0_5 true _ A3.out).mono ?_);rintro e w24 ⟨rfl,hb⟩;refine ⟨_,rfl,?_⟩;have n_:=an_ (blk_below (pk_ Ja.out) hb)<|an_ (blk_below (pk_ Ka.out) hb)<|D (below_step (pB_ HB.out) hb);clear Ja Ka HB;obtain ⟨Ja,Ka,HB⟩:=n_;(try clear hb);have Mk:=cells6 Ka.out)|(go_at_call 34;(with_reducible refine (impl_PrefixOk.calls k a1_0 a1_1 a1_2 a1_3 a1_4 a1_5 true _ A5.out).mono ?_);rintro e w26 ⟨rfl,hb⟩;have n_:=an_ (blk_below (pk_ Ja.out) hb)<|an_ (blk_below (pk_ Ka.out) hb)<|D (below_step (pB_ HB.out) hb);clear Ja Ka HB;obtain ⟨Ja,Ka,HB⟩:=n_;(try clear hb);have Mn:=cells6 Ja.out)|(go_at_call 48;(with_reducible refine (impl_isAny.calls a0_0 a0_1 a0_2 a0_3 a0_4 a0_5 false _ A7.out).mono ?_);rintro e w28 ⟨rfl,hb⟩;have n_:=an_ (blk_below (pk_ Ja.out) hb)<|an_ (blk_below (pk_ Ka.out) hb)<|D (below_step (pB_ HB.out) hb);clear Ja Ka HB;obtain ⟨Ja,Ka,HB⟩:=n_;(try clear hb);have Mp:=cells6 Ka.out)|(go_at_call 48;(with_reducible refine (impl_isAny.calls a1_0 a1_1 a1_2 a1_3 a1_4 a1_5 true _ A18.out).mono ?_);rintro e w30 ⟨rfl,hb⟩;have n_:=an_ (blk_below (pk_ Ja.out) hb)<|an_ (blk_below (pk_ Ka.out) hb)<|D (below_step (pB_ HB.out) hb);clear Ja Ka HB;obtain ⟨Ja,Ka,HB⟩:=n_;(try clear hb)))
     go_ret; exact ⟨er_, pB_ HB.out⟩
    ·replace c19 := Bool.eq_false_iff.mpr c19
     subst c19; rw [if_neg (show ¬ (false = true) by decide)] at H
     by_cases c31 : a0_0 = a1_0
     ·rw [if_pos c31] at H
      have c31b0:(a0_0 == a1_0)=true:=beq_iff_eq.mpr c31;have c31b1:(a0_0 != a1_0)=false:=bne_eq_false_iff_eq.mpr c31;clear c31;obtain rfl:=Option.some.inj H;go_enter Try.func53,Try.ntmps53
      go_wp2_with (first|((with_reducible refine gate_dst (N:=2) rfl ?_);refine bx_ (N:=2) (cs:=#[I L a0_0,I L a0_1,I L a0_2,I L a0_3,I L a0_4,I L a0_5]) (t:=37) ?_;intro Ma hg w32 hbox hb;have n_:=an_ (below_step (pB_ HB.out) hb)<|an_ (hbox)<|an_ (bg_ hg (pB_ HB.out):w.heap.size≤Ma)<|D (bg_ hg (pB_ HB.out):w.heap.size≤Ma);clear HB;obtain ⟨HB,Ja,Jb,Kb⟩:=n_;clear hb hbox hg)|((with_reducible refine gate_dst (N:=3) rfl ?_);refine bx_ (N:=3) (cs:=#[I L a1_0,I L a1_1,I L a1_2,I L a1_3,I L a1_4,I L a1_5]) (t:=37) ?_;intro Oa hg w33 hbox hb;have n_:=an_ (blk_below (pk_ Ja.out) hb)<|an_ (below_step (pB_ HB.out) hb)<|an_ (hbox)<|an_ (bg_ hg (pB_ HB.out):w.heap.size≤Oa)<|an_ (bg_ hg (pB_ HB.out):w.heap.size≤Oa)<|an_ (nl_ hg (pk_ Ja.out):Ma≠Oa)<|D (by rw [hg];exact Nat.ne_of_gt (blk_lt (pk_ Ja.out)):Oa≠Ma);clear Ja HB;obtain ⟨Ja,HB,Ka,Mb,Ob,Ua,Xa⟩:=n_;clear hb hbox hg;(try have:=Ua.out);(try have:=Xa.out);have Mr:=cells6 Ja.out)|((with_reducible refine gate_callee (f:=34) rfl ?_);refine goesL_ (some 6) rfl rfl Try.func34 (by kernel_rfl) rfl #[.agg #[I L a0_0,I L a0_1,I L a0_2,I L a0_3,I L a0_4,I L a0_5]] rfl Z6 ?_;(with_reducible refine (impl_PrefixOk.calls k a0_0 a0_1 a0_2 a0_3 a0_4 a0_5 true _ A3.out).mono ?_);rintro e w36 ⟨rfl,hb⟩;refine ⟨_,rfl,?_⟩;have n_:=an_ (blk_below (pk_ Ja.out) hb)<|an_ (blk_below (pk_ Ka.out) hb)<|D (below_step (pB_ HB.out) hb);clear Ja Ka HB;obtain ⟨Ja,Ka,HB⟩:=n_;(try clear hb);have Mu:=cells6 Ka.out)|(go_at_call 34;(with_reducible refine (impl_PrefixOk.calls k a1_0 a1_1 a1_2 a1_3 a1_4 a1_5 true _ A5.out).mono ?_);rintro e w38 ⟨rfl,hb⟩;have n_:=an_ (blk_below (pk_ Ja.out) hb)<|an_ (blk_below (pk_ Ka.out) hb)<|D (below_step (pB_ HB.out) hb);clear Ja Ka HB;obtain ⟨Ja,Ka,HB⟩:=n_;(try clear hb);have Mx:=cells6 Ja.out)|(go_at_call 48;(with_reducible refine (impl_isAny.calls a0_0 a0_1 a0_2 a0_3 a0_4 a0_5 false _ A7.out).mono ?_);rintro e w40 ⟨rfl,hb⟩;have n_:=an_ (blk_below (pk_ Ja.out) hb)<|an_ (blk_below (pk_ Ka.out) hb)<|D (below_step (pB_ HB.out) hb);clear Ja Ka HB;obtain ⟨Ja,Ka,HB⟩:=n_;(try clear hb);have Mz:=cells6 Ka.out)|(go_at_call 48;(with_reducible refine (impl_isAny.calls a1_0 a1_1 a1_2 a1_3 a1_4 a1_5 false _ A18.out).mono ?_);rintro e w42 ⟨rfl,hb⟩;have n_:=an_ (blk_below (pk_ Ja.out) hb)<|an_ (blk_below (pk_ Ka.out) hb)<|D (below_step (pB_ HB.out) hb);clear Ja Ka HB;obtain ⟨Ja,Ka,HB⟩:=n_;(try clear hb);have Mb1:=cells6 Ja.out;have Md1:=cells6 Ka.out))
      go_ret; exact ⟨er_, pB_ HB.out⟩
     ·rw [if_neg c31] at H
      have c31b0 : (a0_0 == a1_0) = false := beq_eq_false_iff_ne.mpr c31; have c31b1 : (a0_0 != a1_0) = true := bne_iff_ne.mpr c31; obtain rfl := Option.some.inj H; go_enter Try.func53, Try.ntmps53
      go_wp2_with (first|((with_reducible refine gate_dst (N:=2) rfl ?_);refine bx_ (N:=2) (cs:=#[I L a0_0,I L a0_1,I L a0_2,I L a0_3,I L a0_4,I L a0_5]) (t:=37) ?_;intro Ma hg w45 hbox hb;have n_:=an_ (below_step (pB_ HB.out) hb)<|an_ (hbox)<|an_ (bg_ hg (pB_ HB.out):w.heap.size≤Ma)<|D (bg_ hg (pB_ HB.out):w.heap.size≤Ma);clear HB;obtain ⟨HB,Ja,Jb,Kb⟩:=n_;clear hb hbox hg)|((with_reducible refine gate_dst (N:=3) rfl ?_);refine bx_ (N:=3) (cs:=#[I L a1_0,I L a1_1,I L a1_2,I L a1_3,I L a1_4,I L a1_5]) (t:=37) ?_;intro Oa hg w46 hbox hb;have n_:=an_ (blk_below (pk_ Ja.out) hb)<|an_ (below_step (pB_ HB.out) hb)<|an_ (hbox)<|an_ (bg_ hg (pB_ HB.out):w.heap.size≤Oa)<|an_ (bg_ hg (pB_ HB.out):w.heap.size≤Oa)<|an_ (nl_ hg (pk_ Ja.out):Ma≠Oa)<|D (by rw [hg];exact Nat.ne_of_gt (blk_lt (pk_ Ja.out)):Oa≠Ma);clear Ja HB;obtain ⟨Ja,HB,Ka,Mb,Ob,Ua,Xa⟩:=n_;clear hb hbox hg;(try have:=Ua.out);(try have:=Xa.out);have Mf1:=cells6 Ja.out)|((with_reducible refine gate_callee (f:=34) rfl ?_);refine goesL_ (some 6) rfl rfl Try.func34 (by kernel_rfl) rfl #[.agg #[I L a0_0,I L a0_1,I L a0_2,I L a0_3,I L a0_4,I L a0_5]] rfl Z6 ?_;(with_reducible refine (impl_PrefixOk.calls k a0_0 a0_1 a0_2 a0_3 a0_4 a0_5 true _ A3.out).mono ?_);rintro e w49 ⟨rfl,hb⟩;refine ⟨_,rfl,?_⟩;have n_:=an_ (blk_below (pk_ Ja.out) hb)<|an_ (blk_below (pk_ Ka.out) hb)<|D (below_step (pB_ HB.out) hb);clear Ja Ka HB;obtain ⟨Ja,Ka,HB⟩:=n_;(try clear hb);have Mh1:=cells6 Ka.out)|(go_at_call 34;(with_reducible refine (impl_PrefixOk.calls k a1_0 a1_1 a1_2 a1_3 a1_4 a1_5 true _ A5.out).mono ?_);rintro e w51 ⟨rfl,hb⟩;have n_:=an_ (blk_below (pk_ Ja.out) hb)<|an_ (blk_below (pk_ Ka.out) hb)<|D (below_step (pB_ HB.out) hb);clear Ja Ka HB;obtain ⟨Ja,Ka,HB⟩:=n_;(try clear hb);have Mj1:=cells6 Ja.out)|(go_at_call 48;(with_reducible refine (impl_isAny.calls a0_0 a0_1 a0_2 a0_3 a0_4 a0_5 false _ A7.out).mono ?_);rintro e w53 ⟨rfl,hb⟩;have n_:=an_ (blk_below (pk_ Ja.out) hb)<|an_ (blk_below (pk_ Ka.out) hb)<|D (below_step (pB_ HB.out) hb);clear Ja Ka HB;obtain ⟨Ja,Ka,HB⟩:=n_;(try clear hb);have Mm1:=cells6 Ka.out)|(go_at_call 48;(with_reducible refine (impl_isAny.calls a1_0 a1_1 a1_2 a1_3 a1_4 a1_5 false _ A18.out).mono ?_);rintro e w55 ⟨rfl,hb⟩;have n_:=an_ (blk_below (pk_ Ja.out) hb)<|an_ (blk_below (pk_ Ka.out) hb)<|D (below_step (pB_ HB.out) hb);clear Ja Ka HB;obtain ⟨Ja,Ka,HB⟩:=n_;(try clear hb);have Mo1:=cells6 Ja.out;have Mq1:=cells6 Ka.out))
      go_ret; exact ⟨er_, pB_ HB.out⟩
  ·replace c6 := Bool.eq_false_iff.mpr c6
   subst c6; rw [if_neg (show ¬ (false = true) by decide)] at H; obtain rfl := Option.some.inj H; go_enter Try.func53, Try.ntmps53
   go_wp2_with (first|((with_reducible refine gate_dst (N:=2) rfl ?_);refine bx_ (N:=2) (cs:=#[I L a0_0,I L a0_1,I L a0_2,I L a0_3,I L a0_4,I L a0_5]) (t:=37) ?_;intro Ma hg w58 hbox hb;have n_:=an_ (below_step (pB_ HB.out) hb)<|an_ (hbox)<|an_ (bg_ hg (pB_ HB.out):w.heap.size≤Ma)<|D (bg_ hg (pB_ HB.out):w.heap.size≤Ma);clear HB;obtain ⟨HB,Ja,Jb,Kb⟩:=n_;clear hb hbox hg)|((with_reducible refine gate_dst (N:=3) rfl ?_);refine bx_ (N:=3) (cs:=#[I L a1_0,I L a1_1,I L a1_2,I L a1_3,I L a1_4,I L a1_5]) (t:=37) ?_;intro Oa hg w59 hbox hb;have n_:=an_ (blk_below (pk_ Ja.out) hb)<|an_ (below_step (pB_ HB.out) hb)<|an_ (hbox)<|an_ (bg_ hg (pB_ HB.out):w.heap.size≤Oa)<|an_ (bg_ hg (pB_ HB.out):w.heap.size≤Oa)<|an_ (nl_ hg (pk_ Ja.out):Ma≠Oa)<|D (by rw [hg];exact Nat.ne_of_gt (blk_lt (pk_ Ja.out)):Oa≠Ma);clear Ja HB;obtain ⟨Ja,HB,Ka,Mb,Ob,Ua,Xa⟩:=n_;clear hb hbox hg;(try have:=Ua.out);(try have:=Xa.out);have Ms1:=cells6 Ja.out)|((with_reducible refine gate_callee (f:=34) rfl ?_);refine goesL_ (some 6) rfl rfl Try.func34 (by kernel_rfl) rfl #[.agg #[I L a0_0,I L a0_1,I L a0_2,I L a0_3,I L a0_4,I L a0_5]] rfl Z6 ?_;(with_reducible refine (impl_PrefixOk.calls k a0_0 a0_1 a0_2 a0_3 a0_4 a0_5 true _ A3.out).mono ?_);rintro e w62 ⟨rfl,hb⟩;refine ⟨_,rfl,?_⟩;have n_:=an_ (blk_below (pk_ Ja.out) hb)<|an_ (blk_below (pk_ Ka.out) hb)<|D (below_step (pB_ HB.out) hb);clear Ja Ka HB;obtain ⟨Ja,Ka,HB⟩:=n_;(try clear hb);have Mv1:=cells6 Ka.out)|(go_at_call 34;(with_reducible refine (impl_PrefixOk.calls k a1_0 a1_1 a1_2 a1_3 a1_4 a1_5 false _ A5.out).mono ?_);rintro e w64 ⟨rfl,hb⟩;have n_:=an_ (blk_below (pk_ Ja.out) hb)<|an_ (blk_below (pk_ Ka.out) hb)<|D (below_step (pB_ HB.out) hb);clear Ja Ka HB;obtain ⟨Ja,Ka,HB⟩:=n_;(try clear hb)))
   go_ret; exact ⟨er_, pB_ HB.out⟩
 ·replace c4 := Bool.eq_false_iff.mpr c4
  subst c4; rw [if_neg (show ¬ (false = true) by decide)] at H; obtain rfl := Option.some.inj H; go_enter Try.func53, Try.ntmps53
  go_wp2_with (first|((with_reducible refine gate_dst (N:=2) rfl ?_);refine bx_ (N:=2) (cs:=#[I L a0_0,I L a0_1,I L a0_2,I L a0_3,I L a0_4,I L a0_5]) (t:=37) ?_;intro Ma hg w65 hbox hb;have n_:=an_ (below_step (pB_ HB.out) hb)<|an_ (hbox)<|an_ (bg_ hg (pB_ HB.out):w.heap.size≤Ma)<|D (bg_ hg (pB_ HB.out):w.heap.size≤Ma);clear HB;obtain ⟨HB,Ja,Jb,Kb⟩:=n_;clear hb hbox hg)|((with_reducible refine gate_dst (N:=3) rfl ?_);refine bx_ (N:=3) (cs:=#[I L a1_0,I L a1_1,I L a1_2,I L a1_3,I L a1_4,I L a1_5]) (t:=37) ?_;intro Oa hg w66 hbox hb;have n_:=an_ (blk_below (pk_ Ja.out) hb)<|an_ (below_step (pB_ HB.out) hb)<|an_ (hbox)<|an_ (bg_ hg (pB_ HB.out):w.heap.size≤Oa)<|an_ (bg_ hg (pB_ HB.out):w.heap.size≤Oa)<|an_ (nl_ hg (pk_ Ja.out):Ma≠Oa)<|D (by rw [hg];exact Nat.ne_of_gt (blk_lt (pk_ Ja.out)):Oa≠Ma);clear Ja HB;obtain ⟨Ja,HB,Ka,Mb,Ob,Ua,Xa⟩:=n_;clear hb hbox hg;(try have:=Ua.out);(try have:=Xa.out);have My1:=cells6 Ja.out)|((with_reducible refine gate_callee (f:=34) rfl ?_);refine goesL_ (some 6) rfl rfl Try.func34 (by kernel_rfl) rfl #[.agg #[I L a0_0,I L a0_1,I L a0_2,I L a0_3,I L a0_4,I L a0_5]] rfl Z6 ?_;(with_reducible refine (impl_PrefixOk.calls k a0_0 a0_1 a0_2 a0_3 a0_4 a0_5 false _ A3.out).mono ?_);rintro e w69 ⟨rfl,hb⟩;refine ⟨_,rfl,?_⟩;have n_:=an_ (blk_below (pk_ Ja.out) hb)<|an_ (blk_below (pk_ Ka.out) hb)<|D (below_step (pB_ HB.out) hb);clear Ja Ka HB;obtain ⟨Ja,Ka,HB⟩:=n_;(try clear hb)))
  go_ret; exact ⟨er_, pB_ HB.out⟩

end Go.Proofs.Ytjhgkonacdimfab.PFnExactCmdOk
