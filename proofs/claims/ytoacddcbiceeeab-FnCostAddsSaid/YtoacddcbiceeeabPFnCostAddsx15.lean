-- by a program of this session's, over the kit's words
import Derived.Test.YtoacddcbiceeeabPZFnCostAdds
import Derived.Test.YtoacddcbiceeeabPFnCostAddsx0
import Derived.Test.YtoacddcbiceeeabPFnCostAddsx3
namespace Go.Proofs.Ytoacddcbiceeeab.PFnCostAdds
open Go.RowKit Go.Proofs.YtoacddcbiceeeabW.PrintWords Go.Proofs.YtoacddcbiceeeabW.PrintLast Go.Proofs.YtoacddcbiceeeabW.PrintMore Go.Proofs.YtoacddcbiceeeabV Go.Proofs.Ytoacddcbiceeeab.ZFnCostAdds
open Go.Value renaming int → I, slice → Y
open Go.IntKind renaming i64 → L
open Aside0 renaming mk → D
open Option renaming bind_eq_some_iff → bs_
attribute [local go_sem] max2_int min2_int max_two min_two max_three min_three max_four min_four   -- for this text's walks alone
set_option linter.unusedVariables false
set_option linter.unusedSimpArgs false

attribute [local go_sem high] eqA34
/-! ### slices_IndexFunc_impl_Prof_impl_Prof: function 49 -/
def slices_IndexFunc_impl_Prof_impl_Prof.l0 : Nat → List (S43) → (Int → Int → Int → Int → Int → Int → Option (Bool)) → Int → Int → Option (Int)
 | 0, _, _, _, _ => none
 | k + 1,x0,x1,x7,x8=>if x8 < x7 then (if 0≤x8 then (if x8 < (x0.length:Int) then ((x1 ((rd_T43 x0 x8).f0.f0) ((rd_T43 x0 x8).f0.f1) ((rd_T43 x0 x8).f0.f2) ((rd_T43 x0 x8).f1.f0) ((rd_T43 x0 x8).f1.f1) ((rd_T43 x0 x8).f1.f2)).bind fun t555=>(if t555=true then (some x8) else (slices_IndexFunc_impl_Prof_impl_Prof.l0 k x0 x1 x7 (wrap64 (x8 + 1))))) else (none)) else (none)) else (some (-1))
def slices_IndexFunc_impl_Prof_impl_Prof.f (k : Nat) (l0 : List (S43)) (a1 : (Int → Int → Int → Int → Int → Int → Option (Bool))) : Option (Int) := slices_IndexFunc_impl_Prof_impl_Prof.l0 k l0 a1 (l0.length : Int) 0
set_option maxHeartbeats 8000000 in
set_option maxRecDepth 100000 in
theorem slices_IndexFunc_impl_Prof_impl_Prof.calls (k : Nat) (A0 : Option Addr) (c0 : Nat) (l0 : List (S43)) (a1 : (Int → Int → Int → Int → Int → Int → Option (Bool))) (fn1 : Nat) (cp1 : Array Value) (r : Int) (w : World) (hr0 : Kd.C k43 w A0 l0.length l0) (hc0 : l0.length ≤ c0) (hq1 : Aside0 (∃ F_, Try.prog.funcs[fn1]? = some F_ ∧ (F_.name == "runtime.NumGoroutine") = false ∧ F_.body.isSome = true)) (HP1_49 : Aside0 (∀ (a900_0 a900_1 a900_2 a900_3 a900_4 a900_5 : Int) (rr0_ : Bool) (W_ : World), Below w.heap.size w W_ → a1 a900_0 a900_1 a900_2 a900_3 a900_4 a900_5 = some rr0_ → Calls Try.prog fn1 (#[.agg #[I L a900_0, I L a900_1, I L a900_2, I L a900_3, I L a900_4, I L a900_5]] ++ cp1) W_ (fun e w' => e = .returned (.bool rr0_) ∧ Below W_.heap.size W_ w'))) (h : slices_IndexFunc_impl_Prof_impl_Prof.f k l0 a1 = some r) :
  Calls Try.prog 49 #[Y A0 l0.length c0, .func (.func fn1) #[] cp1] w fun e w' => e = .returned (I L r) ∧ Below w.heap.size w w' := by
 have hu43 := Try.underlying43
 have HR0 := D hr0
 have HC0 := D hc0
 clear hr0 hc0
 have HB := D (Below.refl w.heap.size w)
 have H : (slices_IndexFunc_impl_Prof_impl_Prof.l0 k l0 a1 (l0.length : Int) 0) = some r := h
 clear h
 have H' := D H
 clear H
 go_enter Try.func49, Try.ntmps49
 go_wp2
 go_loopg [8] k (fun kq v8 w'=>∃ (x8_1:Int),v8=I L x8_1∧Aside0 (slices_IndexFunc_impl_Prof_impl_Prof.l0 kq l0 a1 (l0.length:Int) x8_1=some r)∧Aside0 (kq≤k)∧Aside0 (Below w.heap.size w w'))
 case atStart => exact ⟨(0), Z22, H', ⟨Nat.le_refl _⟩, ⟨pB_ HB.out⟩⟩
 case round =>
  clear H'
  try clear p2
  obtain ⟨x8_1, rfl, HA, HK1, HB⟩ := hrel
  cases gk with
  | zero => exact absurd HA.out (by simp [slices_IndexFunc_impl_Prof_impl_Prof.l0])
  | succ k1 =>
   have H := HA.out; clear HA; simp only [slices_IndexFunc_impl_Prof_impl_Prof.l0] at H
   by_cases c3 : x8_1 < (l0.length : Int)
   ·rw [if_pos c3] at H
    have c3b0 : decide (x8_1 < (l0.length : Int)) = true := decide_eq_true c3; clear c3
    by_cases c4 : 0 ≤ x8_1
    ·rw [if_pos c4] at H
     have c4b0 : decide (0 ≤ x8_1) = true := decide_eq_true c4; clear c4
     by_cases c5 : x8_1 < (l0.length : Int)
     ·rw [if_pos c5] at H
      have c5b0:decide (x8_1 < (l0.length:Int))=true:=decide_eq_true c5;clear c5;obtain ⟨t555,A60,H⟩:=bs_.mp H;(try dsimp only at H);have A6:=D A60;clear A60;have HU7:=D H;clear H;have p554:0≤(x8_1:Int):=od_ Z21;have q554:x8_1 < (l0.length:Int):=od_ Z21;obtain ⟨ad554,e554,hx554_0,hx554_1,hx554_2,hx554_3,hx554_4,hx554_5⟩:=at_T43 HR0.out x8_1 p554 q554;cases e554;replace hx554_0:=rc_ HB.out hx554_0;replace hx554_1:=rc_ HB.out hx554_1;replace hx554_2:=rc_ HB.out hx554_2;replace hx554_3:=rc_ HB.out hx554_3;replace hx554_4:=rc_ HB.out hx554_4;replace hx554_5:=rc_ HB.out hx554_5;replace p554:=eq_true p554;replace q554:=eq_true q554
      go_upto_if 16 with (first|((with_reducible refine gate_calleeV (j:=11) rfl ?_);obtain ⟨_,hF1_,hF2_,hF3_⟩:=hq1.out;refine goesVL_ (some 16) rfl rfl hF1_ hF2_ hF3_ #[.agg #[I L ((rd_T43 l0 x8_1).f0.f0),I L ((rd_T43 l0 x8_1).f0.f1),I L ((rd_T43 l0 x8_1).f0.f2),I L ((rd_T43 l0 x8_1).f1.f0),I L ((rd_T43 l0 x8_1).f1.f1),I L ((rd_T43 l0 x8_1).f1.f2)]] (cp:=cp1) rfl Z23 Z15 ?_;(with_reducible refine (HP1_49.out ((rd_T43 l0 x8_1).f0.f0) ((rd_T43 l0 x8_1).f0.f1) ((rd_T43 l0 x8_1).f0.f2) ((rd_T43 l0 x8_1).f1.f0) ((rd_T43 l0 x8_1).f1.f1) ((rd_T43 l0 x8_1).f1.f2) t555 _ ?side1 A6.out).mono ?_);(case side1=>exact pB_ HB.out);rintro e w8 ⟨rfl,hb⟩;refine ⟨_,rfl,?_⟩;have n0_:=D (below_step (pB_ HB.out) hb);clear HB;have HB:=n0_;clear n0_;(try clear hb)))
      have H := HU7.out; clear HU7
      by_cases c9 : t555 = true
      ·subst c9
       rw [if_pos rfl] at H; obtain rfl := Option.some.inj H
       go_wp2
       go_ret; exact ⟨er_, pB_ HB.out⟩
      ·replace c9 := Bool.eq_false_iff.mpr c9
       subst c9; rw [if_neg (show ¬ (false = true) by decide)] at H; have H' := D H; clear H
       go_wp2
       go_roundg k1
       case measure => have := HK1.out; omega
       case rel => exact ⟨(wrap64 (x8_1 + 1)), Z22, H', ⟨by have := HK1.out; omega⟩, ⟨pB_ HB.out⟩⟩
     ·rw [if_neg c5] at H
      exact absurd H (by simp)
    ·rw [if_neg c4] at H
     exact absurd H (by simp)
   ·rw [if_neg c3] at H
    have c3b0 : decide (x8_1 < (l0.length : Int)) = false := decide_eq_false c3; clear c3; obtain rfl := Option.some.inj H
    go_wp2
    go_ret; exact ⟨er_, pB_ HB.out⟩

/-! ### slices_ContainsFunc_impl_Prof_impl_Prof: function 31 -/
def slices_ContainsFunc_impl_Prof_impl_Prof.f (k : Nat) (l0 : List (S43)) (a1 : (Int → Int → Int → Int → Int → Int → Option (Bool))) : Option (Bool) := (slices_IndexFunc_impl_Prof_impl_Prof.f k l0 a1).bind fun t556 => (some (decide (t556 ≥ 0)))
set_option maxHeartbeats 8000000 in
set_option maxRecDepth 100000 in
theorem slices_ContainsFunc_impl_Prof_impl_Prof.calls (k : Nat) (A0 : Option Addr) (c0 : Nat) (l0 : List (S43)) (a1 : (Int → Int → Int → Int → Int → Int → Option (Bool))) (fn1 : Nat) (cp1 : Array Value) (r : Bool) (w : World) (hr0 : Kd.C k43 w A0 l0.length l0) (hc0 : l0.length ≤ c0) (hq1 : Aside0 (∃ F_, Try.prog.funcs[fn1]? = some F_ ∧ (F_.name == "runtime.NumGoroutine") = false ∧ F_.body.isSome = true)) (HP1_31 : Aside0 (∀ (a900_0 a900_1 a900_2 a900_3 a900_4 a900_5 : Int) (rr0_ : Bool) (W_ : World), Below w.heap.size w W_ → a1 a900_0 a900_1 a900_2 a900_3 a900_4 a900_5 = some rr0_ → Calls Try.prog fn1 (#[.agg #[I L a900_0, I L a900_1, I L a900_2, I L a900_3, I L a900_4, I L a900_5]] ++ cp1) W_ (fun e w' => e = .returned (.bool rr0_) ∧ Below W_.heap.size W_ w'))) (h : slices_ContainsFunc_impl_Prof_impl_Prof.f k l0 a1 = some r) :
  Calls Try.prog 31 #[Y A0 l0.length c0, .func (.func fn1) #[] cp1] w fun e w' => e = .returned (.bool r) ∧ Below w.heap.size w w' := by
 have HR0 := D hr0
 have HC0 := D hc0
 clear hr0 hc0
 have HB := D (Below.refl w.heap.size w)
 have H : ((slices_IndexFunc_impl_Prof_impl_Prof.f k l0 a1).bind fun t556 => (some (decide (t556 ≥ 0)))) = some r := h
 clear h
 obtain ⟨t556, A30, H⟩ := bs_.mp H
 (try dsimp only at H)
 have A3 := D A30
 clear A30
 obtain rfl := Option.some.inj H
 go_enter Try.func31, Try.ntmps31
 go_wp2_with (first|((with_reducible refine gate_callee (f:=49) rfl ?_);refine goesL_ (some 7) rfl rfl Try.func49 (by kernel_rfl) rfl #[Y A0 l0.length c0,.func (.func fn1) #[] cp1] rfl Z15 ?_;(with_reducible refine (slices_IndexFunc_impl_Prof_impl_Prof.calls k _ _ l0 a1 fn1 cp1 t556 _ ?side1 ?side2 ?side3 ?side4 A3.out).mono ?_);(case side1=>exact pC_ HR0.out);(case side2=>exact HC0.out);(case side3=>exact hq1);(case side4=>refine ⟨?_⟩;intro a900_0 a900_1 a900_2 a900_3 a900_4 a900_5 rr0_ W_ hW_ h_;exact HP1_31.out a900_0 a900_1 a900_2 a900_3 a900_4 a900_5 rr0_ W_ (below_step (pB_ HB.out) hW_) h_);rintro e w4 ⟨rfl,hb⟩;refine ⟨_,rfl,?_⟩;have n0_:=D (below_step (pB_ HB.out) hb);clear HB;have HB:=n0_;clear n0_;(try clear hb)))
 go_ret
 exact ⟨er_, pB_ HB.out⟩

/-! ### impl_within: function 37 -/
def impl_within.f (a0 a1 a2 : Int) : Option (Bool) := if a0 ≥ a1 then (some (decide (a0 ≤ a2))) else (some false)
set_option maxHeartbeats 8000000 in
set_option maxRecDepth 100000 in
theorem impl_within.calls (a0 a1 a2 : Int) (r : Bool) (w : World) (h : impl_within.f a0 a1 a2 = some r) :
  Calls Try.prog 37 #[I L a0, I L a1, I L a2] w fun e w' => e = .returned (.bool r) ∧ Drawn0 w w' := by
 have H : (if a0 ≥ a1 then (some (decide (a0 ≤ a2))) else (some false)) = some r := h
 clear h
 by_cases c4 : a0 ≥ a1
 ·rw [if_pos c4] at H
  have c4b0 : decide (a1 ≤ a0) = true := decide_eq_true c4; clear c4; obtain rfl := Option.some.inj H; go_enter Try.func37, Try.ntmps37
  go_wp2
  go_ret; exact ⟨by first | rfl | (simp; done) | (simp [*]; done), by repeat (first | exact Drawn0.refl _ | apply Drawn0.step)⟩
 ·rw [if_neg c4] at H
  have c4b0 : decide (a1 ≤ a0) = false := decide_eq_false c4; clear c4; obtain rfl := Option.some.inj H; go_enter Try.func37, Try.ntmps37
  go_wp2
  go_ret; exact ⟨by first | rfl | (simp; done) | (simp [*]; done), by repeat (first | exact Drawn0.refl _ | apply Drawn0.step)⟩

/-! ### impl_Vec_isFrom: function 50 -/
def impl_Vec_isFrom.f (a0_0 a0_1 a0_2 a1 a2 : Int) : Option (Bool) := (impl_within.f a0_0 a1 a2).bind fun t558 => (if t558 = true then ((impl_within.f a0_1 a1 a2).bind fun t559 => (if t559 = true then ((impl_within.f a0_2 a1 a2).bind fun t560 => (some t560)) else (some false))) else (some false))
set_option maxHeartbeats 8000000 in
set_option maxRecDepth 100000 in
theorem impl_Vec_isFrom.calls (a0_0 a0_1 a0_2 a1 a2 : Int) (r : Bool) (w : World) (h : impl_Vec_isFrom.f a0_0 a0_1 a0_2 a1 a2 = some r) :
  Calls Try.prog 50 #[.agg #[I L a0_0, I L a0_1, I L a0_2], I L a1, I L a2] w fun e w' => e = .returned (.bool r) ∧ Below w.heap.size w w' := by
 have hu29 := Try.underlying29
 have HB := D (Below.refl w.heap.size w)
 have H:((impl_within.f a0_0 a1 a2).bind fun t558=>(if t558=true then ((impl_within.f a0_1 a1 a2).bind fun t559=>(if t559=true then ((impl_within.f a0_2 a1 a2).bind fun t560=>(some t560)) else (some false))) else (some false)))=some r:=h
 clear h
 obtain ⟨t558, A40, H⟩ := bs_.mp H
 (try dsimp only at H)
 have A4 := D A40
 clear A40
 by_cases c5 : t558 = true
 ·subst c5
  rw [if_pos rfl] at H; obtain ⟨t559, A60, H⟩ := bs_.mp H; (try dsimp only at H); have A6 := D A60; clear A60
  by_cases c7 : t559 = true
  ·subst c7
   rw [if_pos rfl] at H;obtain ⟨t560,A80,H⟩:=bs_.mp H;(try dsimp only at H);have A8:=D A80;clear A80;obtain rfl:=Option.some.inj H;go_enter Try.func50,Try.ntmps50
   go_wp2_with (first|((with_reducible refine gate_dst (N:=3) rfl ?_);refine bx_ (N:=3) (cs:=#[I L a0_0,I L a0_1,I L a0_2]) (t:=29) ?_;intro gb557 hg w9 hbox hb;have n_:=an_ (below_step (pB_ HB.out) hb)<|an_ (hbox)<|an_ (bg_ hg (pB_ HB.out):w.heap.size≤gb557)<|D (bg_ hg (pB_ HB.out):w.heap.size≤gb557);clear HB;obtain ⟨HB,BK557,GW557,GE557⟩:=n_;clear hb hbox hg;have hcz10_0:=cells3 BK557.out)|((with_reducible refine gate_callee (f:=37) rfl ?_);refine goesL_ (some 11) rfl rfl Try.func37 (by kernel_rfl) rfl #[I L a0_0,I L a1,I L a2] rfl Z15 ?_;(with_reducible refine (impl_within.calls a0_0 a1 a2 true _ A4.out).mono ?_);rintro e w' ⟨rfl,⟨nd,rfl⟩⟩;refine ⟨_,rfl,?_⟩)|(go_at_call 37;(with_reducible refine (impl_within.calls a0_1 a1 a2 true _ A6.out).mono ?_);rintro e w' ⟨rfl,⟨nd,rfl⟩⟩)|(go_at_call 37;(with_reducible refine (impl_within.calls a0_2 a1 a2 t560 _ A8.out).mono ?_);rintro e w' ⟨rfl,⟨nd,rfl⟩⟩))
   go_ret; exact ⟨er_, pB_ HB.out⟩
  ·replace c7 := Bool.eq_false_iff.mpr c7
   subst c7; rw [if_neg (show ¬ (false = true) by decide)] at H; obtain rfl := Option.some.inj H; go_enter Try.func50, Try.ntmps50
   go_wp2_with (first|((with_reducible refine gate_dst (N:=3) rfl ?_);refine bx_ (N:=3) (cs:=#[I L a0_0,I L a0_1,I L a0_2]) (t:=29) ?_;intro gb557 hg w11 hbox hb;have n_:=an_ (below_step (pB_ HB.out) hb)<|an_ (hbox)<|an_ (bg_ hg (pB_ HB.out):w.heap.size≤gb557)<|D (bg_ hg (pB_ HB.out):w.heap.size≤gb557);clear HB;obtain ⟨HB,BK557,GW557,GE557⟩:=n_;clear hb hbox hg;have hcz12_0:=cells3 BK557.out)|((with_reducible refine gate_callee (f:=37) rfl ?_);refine goesL_ (some 11) rfl rfl Try.func37 (by kernel_rfl) rfl #[I L a0_0,I L a1,I L a2] rfl Z15 ?_;(with_reducible refine (impl_within.calls a0_0 a1 a2 true _ A4.out).mono ?_);rintro e w' ⟨rfl,⟨nd,rfl⟩⟩;refine ⟨_,rfl,?_⟩)|(go_at_call 37;(with_reducible refine (impl_within.calls a0_1 a1 a2 false _ A6.out).mono ?_);rintro e w' ⟨rfl,⟨nd,rfl⟩⟩))
   go_ret; exact ⟨er_, pB_ HB.out⟩
 ·replace c5 := Bool.eq_false_iff.mpr c5
  subst c5; rw [if_neg (show ¬ (false = true) by decide)] at H; obtain rfl := Option.some.inj H; go_enter Try.func50, Try.ntmps50
  go_wp2_with (first|((with_reducible refine gate_dst (N:=3) rfl ?_);refine bx_ (N:=3) (cs:=#[I L a0_0,I L a0_1,I L a0_2]) (t:=29) ?_;intro gb557 hg w13 hbox hb;have n_:=an_ (below_step (pB_ HB.out) hb)<|an_ (hbox)<|an_ (bg_ hg (pB_ HB.out):w.heap.size≤gb557)<|D (bg_ hg (pB_ HB.out):w.heap.size≤gb557);clear HB;obtain ⟨HB,BK557,GW557,GE557⟩:=n_;clear hb hbox hg;have hcz14_0:=cells3 BK557.out)|((with_reducible refine gate_callee (f:=37) rfl ?_);refine goesL_ (some 11) rfl rfl Try.func37 (by kernel_rfl) rfl #[I L a0_0,I L a1,I L a2] rfl Z15 ?_;(with_reducible refine (impl_within.calls a0_0 a1 a2 false _ A4.out).mono ?_);rintro e w' ⟨rfl,⟨nd,rfl⟩⟩;refine ⟨_,rfl,?_⟩))
  go_ret; exact ⟨er_, pB_ HB.out⟩

/-! ### impl_ProfOk: function 33 -/
def impl_ProfOk.f (a0_0 a0_1 a0_2 a0_3 a0_4 a0_5 : Int) : Option (Bool) := (impl_Vec_isFrom.f a0_0 a0_1 a0_2 0 1000).bind fun t562 => (if t562 = true then ((impl_Vec_isFrom.f a0_3 a0_4 a0_5 0 1000).bind fun t563 => (some t563)) else (some false))
set_option maxHeartbeats 8000000 in
set_option maxRecDepth 100000 in
theorem impl_ProfOk.calls (a0_0 a0_1 a0_2 a0_3 a0_4 a0_5 : Int) (r : Bool) (w : World) (h : impl_ProfOk.f a0_0 a0_1 a0_2 a0_3 a0_4 a0_5 = some r) :
  Calls Try.prog 33 #[.agg #[I L a0_0, I L a0_1, I L a0_2, I L a0_3, I L a0_4, I L a0_5]] w fun e w' => e = .returned (.bool r) ∧ Below w.heap.size w w' := by
 have hu43 := Try.underlying43
 have hu29 := Try.underlying29
 have HB := D (Below.refl w.heap.size w)
 have H : ((impl_Vec_isFrom.f a0_0 a0_1 a0_2 0 1000).bind fun t562 => (if t562 = true then ((impl_Vec_isFrom.f a0_3 a0_4 a0_5 0 1000).bind fun t563 => (some t563)) else (some false))) = some r := h
 clear h
 obtain ⟨t562, A20, H⟩ := bs_.mp H
 (try dsimp only at H)
 have A2 := D A20
 clear A20
 by_cases c3 : t562 = true
 ·subst c3
  rw [if_pos rfl] at H;obtain ⟨t563,A40,H⟩:=bs_.mp H;(try dsimp only at H);have A4:=D A40;clear A40;obtain rfl:=Option.some.inj H;go_enter Try.func33,Try.ntmps33
  go_wp2_with (first|((with_reducible refine gate_dst (N:=1) rfl ?_);refine bx_ (N:=1) (cs:=#[I L a0_0,I L a0_1,I L a0_2,I L a0_3,I L a0_4,I L a0_5]) (t:=43) ?_;intro gb561 hg w5 hbox hb;have n_:=an_ (below_step (pB_ HB.out) hb)<|an_ (hbox)<|an_ (bg_ hg (pB_ HB.out):w.heap.size≤gb561)<|D (bg_ hg (pB_ HB.out):w.heap.size≤gb561);clear HB;obtain ⟨HB,BK561,GW561,GE561⟩:=n_;clear hb hbox hg;have hcz6_0:=cells6 BK561.out)|((with_reducible refine gate_callee (f:=50) rfl ?_);refine goesL_ (some 5) rfl rfl Try.func50 (by kernel_rfl) rfl #[.agg #[I L a0_0,I L a0_1,I L a0_2],I L 0,I L 1000] rfl Z15 ?_;(with_reducible refine (impl_Vec_isFrom.calls a0_0 a0_1 a0_2 0 1000 true _ A2.out).mono ?_);rintro e w7 ⟨rfl,hb⟩;refine ⟨_,rfl,?_⟩;have n_:=an_ (blk_below (pk_ BK561.out) hb)<|D (below_step (pB_ HB.out) hb);clear BK561 HB;obtain ⟨BK561,HB⟩:=n_;(try clear hb);have hcz8_0:=cells6 BK561.out)|(go_at_call 50;(with_reducible refine (impl_Vec_isFrom.calls a0_3 a0_4 a0_5 0 1000 t563 _ A4.out).mono ?_);rintro e w9 ⟨rfl,hb⟩;have n_:=an_ (blk_below (pk_ BK561.out) hb)<|D (below_step (pB_ HB.out) hb);clear BK561 HB;obtain ⟨BK561,HB⟩:=n_;(try clear hb)))
  go_ret; exact ⟨er_, pB_ HB.out⟩
 ·replace c3 := Bool.eq_false_iff.mpr c3
  subst c3; rw [if_neg (show ¬ (false = true) by decide)] at H; obtain rfl := Option.some.inj H; go_enter Try.func33, Try.ntmps33
  go_wp2_with (first|((with_reducible refine gate_dst (N:=1) rfl ?_);refine bx_ (N:=1) (cs:=#[I L a0_0,I L a0_1,I L a0_2,I L a0_3,I L a0_4,I L a0_5]) (t:=43) ?_;intro gb561 hg w10 hbox hb;have n_:=an_ (below_step (pB_ HB.out) hb)<|an_ (hbox)<|an_ (bg_ hg (pB_ HB.out):w.heap.size≤gb561)<|D (bg_ hg (pB_ HB.out):w.heap.size≤gb561);clear HB;obtain ⟨HB,BK561,GW561,GE561⟩:=n_;clear hb hbox hg;have hcz11_0:=cells6 BK561.out)|((with_reducible refine gate_callee (f:=50) rfl ?_);refine goesL_ (some 5) rfl rfl Try.func50 (by kernel_rfl) rfl #[.agg #[I L a0_0,I L a0_1,I L a0_2],I L 0,I L 1000] rfl Z15 ?_;(with_reducible refine (impl_Vec_isFrom.calls a0_0 a0_1 a0_2 0 1000 false _ A2.out).mono ?_);rintro e w12 ⟨rfl,hb⟩;refine ⟨_,rfl,?_⟩;have n_:=an_ (blk_below (pk_ BK561.out) hb)<|D (below_step (pB_ HB.out) hb);clear BK561 HB;obtain ⟨BK561,HB⟩:=n_;(try clear hb)))
  go_ret; exact ⟨er_, pB_ HB.out⟩

/-! ### impl_areProfs_1: function 32 -/
def impl_areProfs_1.f (a0_0 a0_1 a0_2 a0_3 a0_4 a0_5 : Int) : Option (Bool) := (impl_ProfOk.f a0_0 a0_1 a0_2 a0_3 a0_4 a0_5).bind fun t565 => (some (!t565))
set_option maxHeartbeats 8000000 in
set_option maxRecDepth 100000 in
theorem impl_areProfs_1.calls (a0_0 a0_1 a0_2 a0_3 a0_4 a0_5 : Int) (r : Bool) (w : World) (h : impl_areProfs_1.f a0_0 a0_1 a0_2 a0_3 a0_4 a0_5 = some r) :
  Calls Try.prog 32 #[.agg #[I L a0_0, I L a0_1, I L a0_2, I L a0_3, I L a0_4, I L a0_5]] w fun e w' => e = .returned (.bool r) ∧ Below w.heap.size w w' := by
 have hu43 := Try.underlying43
 have HB := D (Below.refl w.heap.size w)
 have H : ((impl_ProfOk.f a0_0 a0_1 a0_2 a0_3 a0_4 a0_5).bind fun t565 => (some (!t565))) = some r := h
 clear h
 obtain ⟨t565, A20, H⟩ := bs_.mp H
 (try dsimp only at H)
 have A2 := D A20
 clear A20
 obtain rfl := Option.some.inj H
 go_enter Try.func32, Try.ntmps32
 go_wp2_with (first|((with_reducible refine gate_dst (N:=1) rfl ?_);refine bx_ (N:=1) (cs:=#[I L a0_0,I L a0_1,I L a0_2,I L a0_3,I L a0_4,I L a0_5]) (t:=43) ?_;intro gb564 hg w3 hbox hb;have n_:=an_ (below_step (pB_ HB.out) hb)<|an_ (hbox)<|an_ (bg_ hg (pB_ HB.out):w.heap.size≤gb564)<|D (bg_ hg (pB_ HB.out):w.heap.size≤gb564);clear HB;obtain ⟨HB,BK564,GW564,GE564⟩:=n_;clear hb hbox hg;have hcz4_0:=cells6 BK564.out)|((with_reducible refine gate_callee (f:=33) rfl ?_);refine goesL_ (some 4) rfl rfl Try.func33 (by kernel_rfl) rfl #[.agg #[I L a0_0,I L a0_1,I L a0_2,I L a0_3,I L a0_4,I L a0_5]] rfl Z15 ?_;(with_reducible refine (impl_ProfOk.calls a0_0 a0_1 a0_2 a0_3 a0_4 a0_5 t565 _ A2.out).mono ?_);rintro e w5 ⟨rfl,hb⟩;refine ⟨_,rfl,?_⟩;have n_:=an_ (blk_below (pk_ BK564.out) hb)<|D (below_step (pB_ HB.out) hb);clear BK564 HB;obtain ⟨BK564,HB⟩:=n_;(try clear hb)))
 go_ret
 exact ⟨er_, pB_ HB.out⟩

/-! ### impl_areProfs: function 19 -/
def impl_areProfs.f (k : Nat) (l0 : List (S43)) : Option (Bool) := if (l0.length : Int) = 7 then ((slices_ContainsFunc_impl_Prof_impl_Prof.f k l0 (fun z0_ z1_ z2_ z3_ z4_ z5_ => impl_areProfs_1.f z0_ z1_ z2_ z3_ z4_ z5_)).bind fun t566 => (some (!t566))) else (some false)
set_option maxHeartbeats 8000000 in
set_option maxRecDepth 100000 in
theorem impl_areProfs.calls (k : Nat) (A0 : Option Addr) (c0 : Nat) (l0 : List (S43)) (r : Bool) (w : World) (hr0 : Kd.C k43 w A0 l0.length l0) (hc0 : l0.length ≤ c0) (h : impl_areProfs.f k l0 = some r) :
  Calls Try.prog 19 #[Y A0 l0.length c0] w fun e w' => e = .returned (.bool r) ∧ Below w.heap.size w w' := by
 have HR0 := D hr0
 have HC0 := D hc0
 clear hr0 hc0
 have HB := D (Below.refl w.heap.size w)
 have H:(if (l0.length:Int)=7 then ((slices_ContainsFunc_impl_Prof_impl_Prof.f k l0 (fun z0_ z1_ z2_ z3_ z4_ z5_=>impl_areProfs_1.f z0_ z1_ z2_ z3_ z4_ z5_)).bind fun t566=>(some (!t566))) else (some false))=some r:=h
 clear h
 by_cases c2 : (l0.length : Int) = 7
 ·rw [if_pos c2] at H
  have c2b0:((l0.length:Int) == 7)=true:=beq_iff_eq.mpr c2;have c2b1:((l0.length:Int) != 7)=false:=bne_eq_false_iff_eq.mpr c2;clear c2;obtain ⟨t566,A30,H⟩:=bs_.mp H;(try dsimp only at H);have A3:=D A30;clear A30;obtain rfl:=Option.some.inj H;go_enter Try.func19,Try.ntmps19
  go_wp2_with (first|(go_at_call 31;(with_reducible refine (slices_ContainsFunc_impl_Prof_impl_Prof.calls k _ _ l0 (fun z0_ z1_ z2_ z3_ z4_ z5_=>impl_areProfs_1.f z0_ z1_ z2_ z3_ z4_ z5_) 32 #[] t566 _ ?side1 ?side2 ?side3 ?side4 A3.out).mono ?_);(case side1=>exact pC_ HR0.out);(case side2=>exact HC0.out);(case side3=>exact ⟨⟨_,Try.func32,by kernel_rfl,rfl⟩⟩);(case side4=>refine ⟨?_⟩;intro a900_0 a900_1 a900_2 a900_3 a900_4 a900_5 rr0_ W_ hW_ h_;refine calls_of_args (args':=#[.agg #[I L a900_0,I L a900_1,I L a900_2,I L a900_3,I L a900_4,I L a900_5]]) (by simp) ?_;refine (impl_areProfs_1.calls a900_0 a900_1 a900_2 a900_3 a900_4 a900_5  rr0_ W_ h_).mono ?_;rintro e w' ⟨rfl,hd_⟩;exact ⟨rfl,hd_⟩);rintro e w4 ⟨rfl,hb⟩;have n0_:=D (below_step (pB_ HB.out) hb);clear HB;have HB:=n0_;clear n0_;(try clear hb)))
  go_ret; exact ⟨er_, pB_ HB.out⟩
 ·rw [if_neg c2] at H
  have c2b0:((l0.length:Int) == 7)=false:=beq_eq_false_iff_ne.mpr c2;have c2b1:((l0.length:Int) != 7)=true:=bne_iff_ne.mpr c2;obtain rfl:=Option.some.inj H;go_enter Try.func19,Try.ntmps19
  go_wp2
  go_ret; exact ⟨er_, pB_ HB.out⟩

/-! ### slices_IndexFunc_impl_Module_impl_Module: function 51 -/
def slices_IndexFunc_impl_Module_impl_Module.l0 : Nat → List (S36) → (Int → Int → Int → Int → Int → Int → Int → Int → Int → Int → Int → Int → Int → Int → Int → Int → Int → Option (Bool)) → Int → Int → Option (Int)
 | 0, _, _, _, _ => none
 | k + 1,x0,x1,x7,x8=>if x8 < x7 then (if 0≤x8 then (if x8 < (x0.length:Int) then ((x1 ((rd_T36 x0 x8).f0) ((rd_T36 x0 x8).f1.f0.f0) ((rd_T36 x0 x8).f1.f0.f1) ((rd_T36 x0 x8).f1.f0.f2) ((rd_T36 x0 x8).f1.f0.f3) ((rd_T36 x0 x8).f1.f0.f4) ((rd_T36 x0 x8).f1.f1) ((rd_T36 x0 x8).f2.f0.f0) ((rd_T36 x0 x8).f2.f0.f1) ((rd_T36 x0 x8).f2.f0.f2) ((rd_T36 x0 x8).f2.f0.f3) ((rd_T36 x0 x8).f2.f0.f4) ((rd_T36 x0 x8).f2.f1) ((rd_T36 x0 x8).f3) ((rd_T36 x0 x8).f4) ((rd_T36 x0 x8).f5) ((rd_T36 x0 x8).f6)).bind fun t568=>(if t568=true then (some x8) else (slices_IndexFunc_impl_Module_impl_Module.l0 k x0 x1 x7 (wrap64 (x8 + 1))))) else (none)) else (none)) else (some (-1))
def slices_IndexFunc_impl_Module_impl_Module.f (k : Nat) (l0 : List (S36)) (a1 : (Int → Int → Int → Int → Int → Int → Int → Int → Int → Int → Int → Int → Int → Int → Int → Int → Int → Option (Bool))) : Option (Int) := slices_IndexFunc_impl_Module_impl_Module.l0 k l0 a1 (l0.length : Int) 0
set_option maxHeartbeats 8000000 in
set_option maxRecDepth 100000 in
theorem slices_IndexFunc_impl_Module_impl_Module.calls (k : Nat) (A0 : Option Addr) (c0 : Nat) (l0 : List (S36)) (a1 : (Int → Int → Int → Int → Int → Int → Int → Int → Int → Int → Int → Int → Int → Int → Int → Int → Int → Option (Bool))) (fn1 : Nat) (cp1 : Array Value) (r : Int) (w : World) (hr0 : Kd.C k36 w A0 l0.length l0) (hc0 : l0.length ≤ c0) (hq1 : Aside0 (∃ F_, Try.prog.funcs[fn1]? = some F_ ∧ (F_.name == "runtime.NumGoroutine") = false ∧ F_.body.isSome = true)) (HP1_51 : Aside0 (∀ (a900_0 a900_1 a900_2 a900_3 a900_4 a900_5 a900_6 a900_7 a900_8 a900_9 a900_10 a900_11 a900_12 a900_13 a900_14 a900_15 a900_16 : Int) (rr0_ : Bool) (W_ : World), Below w.heap.size w W_ → a1 a900_0 a900_1 a900_2 a900_3 a900_4 a900_5 a900_6 a900_7 a900_8 a900_9 a900_10 a900_11 a900_12 a900_13 a900_14 a900_15 a900_16 = some rr0_ → Calls Try.prog fn1 (#[.agg #[I L a900_0, I L a900_1, I L a900_2, I L a900_3, I L a900_4, I L a900_5, I L a900_6, I L a900_7, I L a900_8, I L a900_9, I L a900_10, I L a900_11, I L a900_12, I L a900_13, I L a900_14, I L a900_15, I L a900_16]] ++ cp1) W_ (fun e w' => e = .returned (.bool rr0_) ∧ Below W_.heap.size W_ w'))) (h : slices_IndexFunc_impl_Module_impl_Module.f k l0 a1 = some r) :
  Calls Try.prog 51 #[Y A0 l0.length c0, .func (.func fn1) #[] cp1] w fun e w' => e = .returned (I L r) ∧ Below w.heap.size w w' := by
 have hu36 := Try.underlying36
 have HR0 := D hr0
 have HC0 := D hc0
 clear hr0 hc0
 have HB := D (Below.refl w.heap.size w)
 have H : (slices_IndexFunc_impl_Module_impl_Module.l0 k l0 a1 (l0.length : Int) 0) = some r := h
 clear h
 have H' := D H
 clear H
 go_enter Try.func51, Try.ntmps51
 go_wp2
 go_loopg [8] k (fun kq v8 w'=>∃ (x8_1:Int),v8=I L x8_1∧Aside0 (slices_IndexFunc_impl_Module_impl_Module.l0 kq l0 a1 (l0.length:Int) x8_1=some r)∧Aside0 (kq≤k)∧Aside0 (Below w.heap.size w w'))
 case atStart => exact ⟨(0), Z22, H', ⟨Nat.le_refl _⟩, ⟨pB_ HB.out⟩⟩
 case round =>
  clear H'
  try clear p2
  obtain ⟨x8_1, rfl, HA, HK1, HB⟩ := hrel
  cases gk with
  | zero => exact absurd HA.out (by simp [slices_IndexFunc_impl_Module_impl_Module.l0])
  | succ k1 =>
   have H := HA.out; clear HA; simp only [slices_IndexFunc_impl_Module_impl_Module.l0] at H
   by_cases c3 : x8_1 < (l0.length : Int)
   ·rw [if_pos c3] at H
    have c3b0 : decide (x8_1 < (l0.length : Int)) = true := decide_eq_true c3; clear c3
    by_cases c4 : 0 ≤ x8_1
    ·rw [if_pos c4] at H
     have c4b0 : decide (0 ≤ x8_1) = true := decide_eq_true c4; clear c4
     by_cases c5 : x8_1 < (l0.length : Int)
     ·rw [if_pos c5] at H
      have c5b0:decide (x8_1 < (l0.length:Int))=true:=decide_eq_true c5;clear c5;obtain ⟨t568,A60,H⟩:=bs_.mp H;(try dsimp only at H);have A6:=D A60;clear A60;have HU7:=D H;clear H;have p567:0≤(x8_1:Int):=od_ Z21;have q567:x8_1 < (l0.length:Int):=od_ Z21;obtain ⟨ad567,e567,hx567_0,hx567_1,hx567_2,hx567_3,hx567_4,hx567_5,hx567_6,hx567_7,hx567_8,hx567_9,hx567_10,hx567_11,hx567_12,hx567_13,hx567_14,hx567_15,hx567_16⟩:=at_T36 HR0.out x8_1 p567 q567;cases e567;replace hx567_0:=rc_ HB.out hx567_0;replace hx567_1:=rc_ HB.out hx567_1;replace hx567_2:=rc_ HB.out hx567_2;replace hx567_3:=rc_ HB.out hx567_3;replace hx567_4:=rc_ HB.out hx567_4;replace hx567_5:=rc_ HB.out hx567_5;replace hx567_6:=rc_ HB.out hx567_6;replace hx567_7:=rc_ HB.out hx567_7;replace hx567_8:=rc_ HB.out hx567_8;replace hx567_9:=rc_ HB.out hx567_9;replace hx567_10:=rc_ HB.out hx567_10;replace hx567_11:=rc_ HB.out hx567_11;replace hx567_12:=rc_ HB.out hx567_12;replace hx567_13:=rc_ HB.out hx567_13;replace hx567_14:=rc_ HB.out hx567_14;replace hx567_15:=rc_ HB.out hx567_15;replace hx567_16:=rc_ HB.out hx567_16;replace p567:=eq_true p567;replace q567:=eq_true q567
      go_upto_if 16 with (first|((with_reducible refine gate_calleeV (j:=11) rfl ?_);obtain ⟨_,hF1_,hF2_,hF3_⟩:=hq1.out;refine goesVL_ (some 16) rfl rfl hF1_ hF2_ hF3_ #[.agg #[I L ((rd_T36 l0 x8_1).f0),I L ((rd_T36 l0 x8_1).f1.f0.f0),I L ((rd_T36 l0 x8_1).f1.f0.f1),I L ((rd_T36 l0 x8_1).f1.f0.f2),I L ((rd_T36 l0 x8_1).f1.f0.f3),I L ((rd_T36 l0 x8_1).f1.f0.f4),I L ((rd_T36 l0 x8_1).f1.f1),I L ((rd_T36 l0 x8_1).f2.f0.f0),I L ((rd_T36 l0 x8_1).f2.f0.f1),I L ((rd_T36 l0 x8_1).f2.f0.f2),I L ((rd_T36 l0 x8_1).f2.f0.f3),I L ((rd_T36 l0 x8_1).f2.f0.f4),I L ((rd_T36 l0 x8_1).f2.f1),I L ((rd_T36 l0 x8_1).f3),I L ((rd_T36 l0 x8_1).f4),I L ((rd_T36 l0 x8_1).f5),I L ((rd_T36 l0 x8_1).f6)]] (cp:=cp1) rfl Z23 Z15 ?_;(with_reducible refine (HP1_51.out ((rd_T36 l0 x8_1).f0) ((rd_T36 l0 x8_1).f1.f0.f0) ((rd_T36 l0 x8_1).f1.f0.f1) ((rd_T36 l0 x8_1).f1.f0.f2) ((rd_T36 l0 x8_1).f1.f0.f3) ((rd_T36 l0 x8_1).f1.f0.f4) ((rd_T36 l0 x8_1).f1.f1) ((rd_T36 l0 x8_1).f2.f0.f0) ((rd_T36 l0 x8_1).f2.f0.f1) ((rd_T36 l0 x8_1).f2.f0.f2) ((rd_T36 l0 x8_1).f2.f0.f3) ((rd_T36 l0 x8_1).f2.f0.f4) ((rd_T36 l0 x8_1).f2.f1) ((rd_T36 l0 x8_1).f3) ((rd_T36 l0 x8_1).f4) ((rd_T36 l0 x8_1).f5) ((rd_T36 l0 x8_1).f6) t568 _ ?side1 A6.out).mono ?_);(case side1=>exact pB_ HB.out);rintro e w8 ⟨rfl,hb⟩;refine ⟨_,rfl,?_⟩;have n0_:=D (below_step (pB_ HB.out) hb);clear HB;have HB:=n0_;clear n0_;(try clear hb)))
      have H := HU7.out; clear HU7
      by_cases c9 : t568 = true
      ·subst c9
       rw [if_pos rfl] at H; obtain rfl := Option.some.inj H
       go_wp2
       go_ret; exact ⟨er_, pB_ HB.out⟩
      ·replace c9 := Bool.eq_false_iff.mpr c9
       subst c9; rw [if_neg (show ¬ (false = true) by decide)] at H; have H' := D H; clear H
       go_wp2
       go_roundg k1
       case measure => have := HK1.out; omega
       case rel => exact ⟨(wrap64 (x8_1 + 1)), Z22, H', ⟨by have := HK1.out; omega⟩, ⟨pB_ HB.out⟩⟩
     ·rw [if_neg c5] at H
      exact absurd H (by simp)
    ·rw [if_neg c4] at H
     exact absurd H (by simp)
   ·rw [if_neg c3] at H
    have c3b0 : decide (x8_1 < (l0.length : Int)) = false := decide_eq_false c3; clear c3; obtain rfl := Option.some.inj H
    go_wp2
    go_ret; exact ⟨er_, pB_ HB.out⟩

/-! ### slices_ContainsFunc_impl_Module_impl_Module: function 34 -/
def slices_ContainsFunc_impl_Module_impl_Module.f (k : Nat) (l0 : List (S36)) (a1 : (Int → Int → Int → Int → Int → Int → Int → Int → Int → Int → Int → Int → Int → Int → Int → Int → Int → Option (Bool))) : Option (Bool) := (slices_IndexFunc_impl_Module_impl_Module.f k l0 a1).bind fun t569 => (some (decide (t569 ≥ 0)))
set_option maxHeartbeats 8000000 in
set_option maxRecDepth 100000 in
theorem slices_ContainsFunc_impl_Module_impl_Module.calls (k : Nat) (A0 : Option Addr) (c0 : Nat) (l0 : List (S36)) (a1 : (Int → Int → Int → Int → Int → Int → Int → Int → Int → Int → Int → Int → Int → Int → Int → Int → Int → Option (Bool))) (fn1 : Nat) (cp1 : Array Value) (r : Bool) (w : World) (hr0 : Kd.C k36 w A0 l0.length l0) (hc0 : l0.length ≤ c0) (hq1 : Aside0 (∃ F_, Try.prog.funcs[fn1]? = some F_ ∧ (F_.name == "runtime.NumGoroutine") = false ∧ F_.body.isSome = true)) (HP1_34 : Aside0 (∀ (a900_0 a900_1 a900_2 a900_3 a900_4 a900_5 a900_6 a900_7 a900_8 a900_9 a900_10 a900_11 a900_12 a900_13 a900_14 a900_15 a900_16 : Int) (rr0_ : Bool) (W_ : World), Below w.heap.size w W_ → a1 a900_0 a900_1 a900_2 a900_3 a900_4 a900_5 a900_6 a900_7 a900_8 a900_9 a900_10 a900_11 a900_12 a900_13 a900_14 a900_15 a900_16 = some rr0_ → Calls Try.prog fn1 (#[.agg #[I L a900_0, I L a900_1, I L a900_2, I L a900_3, I L a900_4, I L a900_5, I L a900_6, I L a900_7, I L a900_8, I L a900_9, I L a900_10, I L a900_11, I L a900_12, I L a900_13, I L a900_14, I L a900_15, I L a900_16]] ++ cp1) W_ (fun e w' => e = .returned (.bool rr0_) ∧ Below W_.heap.size W_ w'))) (h : slices_ContainsFunc_impl_Module_impl_Module.f k l0 a1 = some r) :
  Calls Try.prog 34 #[Y A0 l0.length c0, .func (.func fn1) #[] cp1] w fun e w' => e = .returned (.bool r) ∧ Below w.heap.size w w' := by
 have HR0 := D hr0
 have HC0 := D hc0
 clear hr0 hc0
 have HB := D (Below.refl w.heap.size w)
 have H : ((slices_IndexFunc_impl_Module_impl_Module.f k l0 a1).bind fun t569 => (some (decide (t569 ≥ 0)))) = some r := h
 clear h
 obtain ⟨t569, A30, H⟩ := bs_.mp H
 (try dsimp only at H)
 have A3 := D A30
 clear A30
 obtain rfl := Option.some.inj H
 go_enter Try.func34, Try.ntmps34
 go_wp2_with (first|((with_reducible refine gate_callee (f:=51) rfl ?_);refine goesL_ (some 7) rfl rfl Try.func51 (by kernel_rfl) rfl #[Y A0 l0.length c0,.func (.func fn1) #[] cp1] rfl Z15 ?_;(with_reducible refine (slices_IndexFunc_impl_Module_impl_Module.calls k _ _ l0 a1 fn1 cp1 t569 _ ?side1 ?side2 ?side3 ?side4 A3.out).mono ?_);(case side1=>exact pC_ HR0.out);(case side2=>exact HC0.out);(case side3=>exact hq1);(case side4=>refine ⟨?_⟩;intro a900_0 a900_1 a900_2 a900_3 a900_4 a900_5 a900_6 a900_7 a900_8 a900_9 a900_10 a900_11 a900_12 a900_13 a900_14 a900_15 a900_16 rr0_ W_ hW_ h_;exact HP1_34.out a900_0 a900_1 a900_2 a900_3 a900_4 a900_5 a900_6 a900_7 a900_8 a900_9 a900_10 a900_11 a900_12 a900_13 a900_14 a900_15 a900_16 rr0_ W_ (below_step (pB_ HB.out) hW_) h_);rintro e w4 ⟨rfl,hb⟩;refine ⟨_,rfl,?_⟩;have n0_:=D (below_step (pB_ HB.out) hb);clear HB;have HB:=n0_;clear n0_;(try clear hb)))
 go_ret
 exact ⟨er_, pB_ HB.out⟩

/-! ### impl_isAny: function 59 -/
def impl_isAny.f (a0_0 a0_1 a0_2 a0_3 a0_4 a0_5 : Int) : Option (Bool) := some ((a0_0 == 0 && (a0_1 == 0 && (a0_2 == 0 && (a0_3 == 0 && (a0_4 == 0))))) && (a0_5 == 0))
set_option maxHeartbeats 8000000 in
set_option maxRecDepth 100000 in
theorem impl_isAny.calls (a0_0 a0_1 a0_2 a0_3 a0_4 a0_5 : Int) (r : Bool) (w : World) (h : impl_isAny.f a0_0 a0_1 a0_2 a0_3 a0_4 a0_5 = some r) :
  Calls Try.prog 59 #[.agg #[I L a0_0, I L a0_1, I L a0_2, I L a0_3, I L a0_4, I L a0_5]] w fun e w' => e = .returned (.bool r) ∧ Below w.heap.size w w' := by
 have hu34 := Try.underlying34
 have HB := D (Below.refl w.heap.size w)
 have H : (some ((a0_0 == 0 && (a0_1 == 0 && (a0_2 == 0 && (a0_3 == 0 && (a0_4 == 0))))) && (a0_5 == 0))) = some r := h
 clear h
 obtain rfl := Option.some.inj H
 go_enter Try.func59, Try.ntmps59
 go_wp2_with (first|((with_reducible refine gate_dst (N:=1) rfl ?_);refine bx_ (N:=1) (cs:=#[I L a0_0,I L a0_1,I L a0_2,I L a0_3,I L a0_4,I L a0_5]) (t:=34) ?_;intro gb570 hg w2 hbox hb;have n_:=an_ (below_step (pB_ HB.out) hb)<|an_ (hbox)<|an_ (bg_ hg (pB_ HB.out):w.heap.size≤gb570)<|D (bg_ hg (pB_ HB.out):w.heap.size≤gb570);clear HB;obtain ⟨HB,BK570,GW570,GE570⟩:=n_;clear hb hbox hg;have hcz3_0:=cells6 BK570.out))
 go_ret
 exact ⟨er_, pB_ HB.out⟩

/-! ### impl_isLong: function 66 -/
def impl_isLong.f (a0 : Int) : Option (Bool) := (impl_within.f a0 0 4294967295).bind fun t571 => (some t571)
set_option maxHeartbeats 8000000 in
set_option maxRecDepth 100000 in
theorem impl_isLong.calls (a0 : Int) (r : Bool) (w : World) (h : impl_isLong.f a0 = some r) :
  Calls Try.prog 66 #[I L a0] w fun e w' => e = .returned (.bool r) ∧ Drawn0 w w' := by
 have H : ((impl_within.f a0 0 4294967295).bind fun t571 => (some t571)) = some r := h
 clear h
 obtain ⟨t571, A20, H⟩ := bs_.mp H
 (try dsimp only at H)
 have A2 := D A20
 clear A20
 obtain rfl := Option.some.inj H
 go_enter Try.func66, Try.ntmps66
 go_wp2_with (first|((with_reducible refine gate_callee (f:=37) rfl ?_);refine goesL_ (some 4) rfl rfl Try.func37 (by kernel_rfl) rfl #[I L a0,I L 0,I L 4294967295] rfl Z15 ?_;(with_reducible refine (impl_within.calls a0 0 4294967295 t571 _ A2.out).mono ?_);rintro e w' ⟨rfl,⟨nd,rfl⟩⟩;refine ⟨_,rfl,?_⟩))
 go_ret
 exact ⟨by first | rfl | (simp; done) | (simp [*]; done), by repeat (first | exact Drawn0.refl _ | apply Drawn0.step)⟩

/-! ### impl_AddrOk: function 60 -/
def impl_AddrOk.f (a0_0 a0_1 a0_2 a0_3 a0_4 : Int) : Option (Bool) := if a0_0 = 4 then (if a0_1 = 0 then (if a0_2 = 0 then (if a0_3 = 0 then ((impl_isLong.f a0_4).bind fun t573 => (some t573)) else (some false)) else (some false)) else (some false)) else (if a0_0 = 6 then ((impl_isLong.f a0_1).bind fun t574 => (if t574 = true then ((impl_isLong.f a0_2).bind fun t575 => (if t575 = true then ((impl_isLong.f a0_3).bind fun t576 => (if t576 = true then ((impl_isLong.f a0_4).bind fun t577 => (some t577)) else (some false))) else (some false))) else (some false))) else (some false))
set_option maxHeartbeats 8000000 in
set_option maxRecDepth 100000 in
theorem impl_AddrOk.calls (a0_0 a0_1 a0_2 a0_3 a0_4 : Int) (r : Bool) (w : World) (h : impl_AddrOk.f a0_0 a0_1 a0_2 a0_3 a0_4 = some r) :
  Calls Try.prog 60 #[.agg #[I L a0_0, I L a0_1, I L a0_2, I L a0_3, I L a0_4]] w fun e w' => e = .returned (.bool r) ∧ Below w.heap.size w w' := by
 have hu32 := Try.underlying32
 have HB := D (Below.refl w.heap.size w)
 have H:(if a0_0=4 then (if a0_1=0 then (if a0_2=0 then (if a0_3=0 then ((impl_isLong.f a0_4).bind fun t573=>(some t573)) else (some false)) else (some false)) else (some false)) else (if a0_0=6 then ((impl_isLong.f a0_1).bind fun t574=>(if t574=true then ((impl_isLong.f a0_2).bind fun t575=>(if t575=true then ((impl_isLong.f a0_3).bind fun t576=>(if t576=true then ((impl_isLong.f a0_4).bind fun t577=>(some t577)) else (some false))) else (some false))) else (some false))) else (some false)))=some r:=h
 clear h
 have HU2 := D H
 clear H
 go_enter Try.func60, Try.ntmps60
 go_upto_if 5 with (first|((with_reducible refine gate_dst (N:=1) rfl ?_);refine bx_ (N:=1) (cs:=#[I L a0_0,I L a0_1,I L a0_2,I L a0_3,I L a0_4]) (t:=32) ?_;intro gb572 hg w3 hbox hb;have n_:=an_ (below_step (pB_ HB.out) hb)<|an_ (hbox)<|an_ (bg_ hg (pB_ HB.out):w.heap.size≤gb572)<|D (bg_ hg (pB_ HB.out):w.heap.size≤gb572);clear HB;obtain ⟨HB,BK572,GW572,GE572⟩:=n_;clear hb hbox hg;have hcz4_0:=cells5 BK572.out))
 have H := HU2.out
 clear HU2
 by_cases c5 : a0_0 = 4
 ·rw [if_pos c5] at H
  have c5b0:(a0_0 == 4)=true:=beq_iff_eq.mpr c5;have c5b1:(a0_0 != 4)=false:=bne_eq_false_iff_eq.mpr c5;clear c5;refine rw_ c5b0 ?_
  by_cases c6 : a0_1 = 0
  ·rw [if_pos c6] at H
   have c6b0 : (a0_1 == 0) = true := beq_iff_eq.mpr c6; have c6b1 : (a0_1 != 0) = false := bne_eq_false_iff_eq.mpr c6; clear c6
   by_cases c7 : a0_2 = 0
   ·rw [if_pos c7] at H
    have c7b0 : (a0_2 == 0) = true := beq_iff_eq.mpr c7; have c7b1 : (a0_2 != 0) = false := bne_eq_false_iff_eq.mpr c7; clear c7
    by_cases c8 : a0_3 = 0
    ·rw [if_pos c8] at H
     have c8b0:(a0_3 == 0)=true:=beq_iff_eq.mpr c8;have c8b1:(a0_3 != 0)=false:=bne_eq_false_iff_eq.mpr c8;clear c8;obtain ⟨t573,A90,H⟩:=bs_.mp H;(try dsimp only at H);have A9:=D A90;clear A90;obtain rfl:=Option.some.inj H;have hcz10_0:=cells5 BK572.out
     go_wp2_with (first | (go_at_call 66; (with_reducible refine (impl_isLong.calls a0_4 t573 _ A9.out).mono ?_); rintro e w' ⟨rfl, ⟨nd, rfl⟩⟩))
     go_ret; exact ⟨er_, pB_ HB.out⟩
    ·rw [if_neg c8] at H
     have c8b0:(a0_3 == 0)=false:=beq_eq_false_iff_ne.mpr c8;have c8b1:(a0_3 != 0)=true:=bne_iff_ne.mpr c8;obtain rfl:=Option.some.inj H;have hcz11_0:=cells5 BK572.out
     go_wp2
     go_ret; exact ⟨er_, pB_ HB.out⟩
   ·rw [if_neg c7] at H
    have c7b0:(a0_2 == 0)=false:=beq_eq_false_iff_ne.mpr c7;have c7b1:(a0_2 != 0)=true:=bne_iff_ne.mpr c7;obtain rfl:=Option.some.inj H;have hcz12_0:=cells5 BK572.out
    go_wp2
    go_ret; exact ⟨er_, pB_ HB.out⟩
  ·rw [if_neg c6] at H
   have c6b0:(a0_1 == 0)=false:=beq_eq_false_iff_ne.mpr c6;have c6b1:(a0_1 != 0)=true:=bne_iff_ne.mpr c6;obtain rfl:=Option.some.inj H;have hcz13_0:=cells5 BK572.out
   go_wp2
   go_ret; exact ⟨er_, pB_ HB.out⟩
 ·rw [if_neg c5] at H
  have c5b0:(a0_0 == 4)=false:=beq_eq_false_iff_ne.mpr c5;have c5b1:(a0_0 != 4)=true:=bne_iff_ne.mpr c5;refine rw_ c5b0 ?_
  by_cases c14 : a0_0 = 6
  ·rw [if_pos c14] at H
   have c14b0:(a0_0 == 6)=true:=beq_iff_eq.mpr c14;have c14b1:(a0_0 != 6)=false:=bne_eq_false_iff_eq.mpr c14;clear c14;obtain ⟨t574,A150,H⟩:=bs_.mp H;(try dsimp only at H);have A15:=D A150;clear A150
   by_cases c16 : t574 = true
   ·subst c16
    rw [if_pos rfl] at H; obtain ⟨t575, A170, H⟩ := bs_.mp H; (try dsimp only at H); have A17 := D A170; clear A170
    by_cases c18 : t575 = true
    ·subst c18
     rw [if_pos rfl] at H; obtain ⟨t576, A190, H⟩ := bs_.mp H; (try dsimp only at H); have A19 := D A190; clear A190
     by_cases c20 : t576 = true
     ·subst c20
      rw [if_pos rfl] at H;obtain ⟨t577,A210,H⟩:=bs_.mp H;(try dsimp only at H);have A21:=D A210;clear A210;obtain rfl:=Option.some.inj H;have hcz22_0:=cells5 BK572.out
      go_wp2_with (first|((with_reducible refine gate_callee (f:=66) rfl ?_);refine goesL_ (some 29) rfl rfl Try.func66 (by kernel_rfl) rfl #[I L a0_1] rfl Z15 ?_;(with_reducible refine (impl_isLong.calls a0_1 true _ A15.out).mono ?_);rintro e w' ⟨rfl,⟨nd,rfl⟩⟩;refine ⟨_,rfl,?_⟩)|(go_at_call 66;(with_reducible refine (impl_isLong.calls a0_2 true _ A17.out).mono ?_);rintro e w' ⟨rfl,⟨nd,rfl⟩⟩)|(go_at_call 66;(with_reducible refine (impl_isLong.calls a0_3 true _ A19.out).mono ?_);rintro e w' ⟨rfl,⟨nd,rfl⟩⟩)|(go_at_call 66;(with_reducible refine (impl_isLong.calls a0_4 t577 _ A21.out).mono ?_);rintro e w' ⟨rfl,⟨nd,rfl⟩⟩))
      go_ret; exact ⟨er_, pB_ HB.out⟩
     ·replace c20 := Bool.eq_false_iff.mpr c20
      subst c20;rw [if_neg (show ¬ (false=true) by decide)] at H;obtain rfl:=Option.some.inj H;have hcz23_0:=cells5 BK572.out
      go_wp2_with (first|((with_reducible refine gate_callee (f:=66) rfl ?_);refine goesL_ (some 29) rfl rfl Try.func66 (by kernel_rfl) rfl #[I L a0_1] rfl Z15 ?_;(with_reducible refine (impl_isLong.calls a0_1 true _ A15.out).mono ?_);rintro e w' ⟨rfl,⟨nd,rfl⟩⟩;refine ⟨_,rfl,?_⟩)|(go_at_call 66;(with_reducible refine (impl_isLong.calls a0_2 true _ A17.out).mono ?_);rintro e w' ⟨rfl,⟨nd,rfl⟩⟩)|(go_at_call 66;(with_reducible refine (impl_isLong.calls a0_3 false _ A19.out).mono ?_);rintro e w' ⟨rfl,⟨nd,rfl⟩⟩))
      go_ret; exact ⟨er_, pB_ HB.out⟩
    ·replace c18 := Bool.eq_false_iff.mpr c18
     subst c18;rw [if_neg (show ¬ (false=true) by decide)] at H;obtain rfl:=Option.some.inj H;have hcz24_0:=cells5 BK572.out
     go_wp2_with (first|((with_reducible refine gate_callee (f:=66) rfl ?_);refine goesL_ (some 29) rfl rfl Try.func66 (by kernel_rfl) rfl #[I L a0_1] rfl Z15 ?_;(with_reducible refine (impl_isLong.calls a0_1 true _ A15.out).mono ?_);rintro e w' ⟨rfl,⟨nd,rfl⟩⟩;refine ⟨_,rfl,?_⟩)|(go_at_call 66;(with_reducible refine (impl_isLong.calls a0_2 false _ A17.out).mono ?_);rintro e w' ⟨rfl,⟨nd,rfl⟩⟩))
     go_ret; exact ⟨er_, pB_ HB.out⟩
   ·replace c16 := Bool.eq_false_iff.mpr c16
    subst c16;rw [if_neg (show ¬ (false=true) by decide)] at H;obtain rfl:=Option.some.inj H;have hcz25_0:=cells5 BK572.out
    go_wp2_with (first|((with_reducible refine gate_callee (f:=66) rfl ?_);refine goesL_ (some 29) rfl rfl Try.func66 (by kernel_rfl) rfl #[I L a0_1] rfl Z15 ?_;(with_reducible refine (impl_isLong.calls a0_1 false _ A15.out).mono ?_);rintro e w' ⟨rfl,⟨nd,rfl⟩⟩;refine ⟨_,rfl,?_⟩))
    go_ret; exact ⟨er_, pB_ HB.out⟩
  ·rw [if_neg c14] at H
   have c14b0 : (a0_0 == 6) = false := beq_eq_false_iff_ne.mpr c14; have c14b1 : (a0_0 != 6) = true := bne_iff_ne.mpr c14; obtain rfl := Option.some.inj H
   go_wp2
   go_ret; exact ⟨er_, pB_ HB.out⟩

/-! ### impl_bitsOf: function 61 -/
def impl_bitsOf.f (a0_0 a0_1 a0_2 a0_3 a0_4 : Int) : Option (Int) := if a0_0 = 4 then (some 32) else (some 128)
set_option maxHeartbeats 8000000 in
set_option maxRecDepth 100000 in
theorem impl_bitsOf.calls (a0_0 a0_1 a0_2 a0_3 a0_4 r : Int) (w : World) (h : impl_bitsOf.f a0_0 a0_1 a0_2 a0_3 a0_4 = some r) :
  Calls Try.prog 61 #[.agg #[I L a0_0, I L a0_1, I L a0_2, I L a0_3, I L a0_4]] w fun e w' => e = .returned (I L r) ∧ Below w.heap.size w w' := by
 have hu32 := Try.underlying32
 have HB := D (Below.refl w.heap.size w)
 have H : (if a0_0 = 4 then (some 32) else (some 128)) = some r := h
 clear h
 have HU2 := D H
 clear H
 go_enter Try.func61, Try.ntmps61
 go_upto_if 5 with (first|((with_reducible refine gate_dst (N:=1) rfl ?_);refine bx_ (N:=1) (cs:=#[I L a0_0,I L a0_1,I L a0_2,I L a0_3,I L a0_4]) (t:=32) ?_;intro gb578 hg w3 hbox hb;have n_:=an_ (below_step (pB_ HB.out) hb)<|an_ (hbox)<|an_ (bg_ hg (pB_ HB.out):w.heap.size≤gb578)<|D (bg_ hg (pB_ HB.out):w.heap.size≤gb578);clear HB;obtain ⟨HB,BK578,GW578,GE578⟩:=n_;clear hb hbox hg;have hcz4_0:=cells5 BK578.out))
 have H := HU2.out
 clear HU2
 by_cases c5 : a0_0 = 4
 ·rw [if_pos c5] at H
  have c5b0:(a0_0 == 4)=true:=beq_iff_eq.mpr c5;have c5b1:(a0_0 != 4)=false:=bne_eq_false_iff_eq.mpr c5;clear c5;refine rw_ c5b0 ?_;obtain rfl:=Option.some.inj H
  go_wp2
  go_ret; exact ⟨er_, pB_ HB.out⟩
 ·rw [if_neg c5] at H
  have c5b0:(a0_0 == 4)=false:=beq_eq_false_iff_ne.mpr c5;have c5b1:(a0_0 != 4)=true:=bne_iff_ne.mpr c5;refine rw_ c5b0 ?_;obtain rfl:=Option.some.inj H
  go_wp2
  go_ret; exact ⟨er_, pB_ HB.out⟩

/-! ### impl_Clip: function 26 -/
def impl_Clip.f (a0 a1 a2 : Int) : Option (Int) := if a0 < a1 then (some a1) else (if a0 > a2 then (some a2) else (some a0))
set_option maxHeartbeats 8000000 in
set_option maxRecDepth 100000 in
theorem impl_Clip.calls (a0 a1 a2 r : Int) (w : World) (h : impl_Clip.f a0 a1 a2 = some r) :
  Calls Try.prog 26 #[I L a0, I L a1, I L a2] w fun e w' => e = .returned (I L r) ∧ Drawn0 w w' := by
 have H : (if a0 < a1 then (some a1) else (if a0 > a2 then (some a2) else (some a0))) = some r := h
 clear h
 by_cases c4 : a0 < a1
 ·rw [if_pos c4] at H
  have c4b0 : decide (a0 < a1) = true := decide_eq_true c4; clear c4; obtain rfl := Option.some.inj H; go_enter Try.func26, Try.ntmps26
  go_wp2
  go_ret; exact ⟨by first | rfl | (simp; done) | (simp [*]; done), by repeat (first | exact Drawn0.refl _ | apply Drawn0.step)⟩
 ·rw [if_neg c4] at H
  have c4b0 : decide (a0 < a1) = false := decide_eq_false c4; clear c4
  by_cases c5 : a0 > a2
  ·rw [if_pos c5] at H
   have c5b0 : decide (a2 < a0) = true := decide_eq_true c5; clear c5; obtain rfl := Option.some.inj H; go_enter Try.func26, Try.ntmps26
   go_wp2
   go_ret; exact ⟨by first | rfl | (simp; done) | (simp [*]; done), by repeat (first | exact Drawn0.refl _ | apply Drawn0.step)⟩
  ·rw [if_neg c5] at H
   have c5b0 : decide (a2 < a0) = false := decide_eq_false c5; clear c5; obtain rfl := Option.some.inj H; go_enter Try.func26, Try.ntmps26
   go_wp2
   go_ret; exact ⟨by first | rfl | (simp; done) | (simp [*]; done), by repeat (first | exact Drawn0.refl _ | apply Drawn0.step)⟩

/-! ### impl_put: function 74 -/
def impl_put.l0 : Nat → Int → Int → List Int → Int → Int → Option (List Int)
 | 0, _, _, _, _, _ => none
 | k + 1,x0,x1,x5,x10,x11=>if x11 < x10 then (if 0≤(wrap64 (8 * (wrap64 ((wrap64 (x1 - 1)) - x11)))) then (if 0≤x11 then (if x11 < (x5.length:Int) then (impl_put.l0 k x0 x1 (x5.set (x11:Int).toNat ((shr .i64 x0 (wrap64 (8 * (wrap64 ((wrap64 (x1 - 1)) - x11))))) % 256)) x10 (wrap64 (x11 + 1))) else (none)) else (none)) else (none)) else (some x5)
def impl_put.f (k : Nat) (a0 a1 : Int) : Option (List Int) := if 0 ≤ a1 then (if (a1 : Int).toNat ≤ 281474976710656 then ((some (List.replicate (a1 : Int).toNat 0 : List Int)).bind fun y579 => (impl_put.l0 k a0 a1 y579 (y579.length : Int) 0)) else (none)) else (none)
set_option maxHeartbeats 8000000 in
set_option maxRecDepth 100000 in
theorem impl_put.calls (k : Nat) (a0 a1 : Int) (r : List Int) (w : World) (h : impl_put.f k a0 a1 = some r) :
  Calls Try.prog 74 #[I L a0, I L a1] w fun e w' => ∃ v0_ : Value, e = .returned (v0_) ∧ Kd.R (Kd.int .u8) 5 w' w.heap.size (fun _ => True) v0_ r ∧ Below w.heap.size w w' := by
 have HB := D (Below.refl w.heap.size w)
 have H:(if 0≤a1 then (if (a1:Int).toNat≤281474976710656 then ((some (List.replicate (a1:Int).toNat 0:List Int)).bind fun y579=>(impl_put.l0 k a0 a1 y579 (y579.length:Int) 0)) else (none)) else (none))=some r:=h
 clear h
 by_cases c3 : 0 ≤ a1
 ·rw [if_pos c3] at H
  have c3b0 := eq_true c3; have c3b1 : decide (0 ≤ a1) = true := decide_eq_true c3; clear c3
  by_cases c4 : (a1 : Int).toNat ≤ 281474976710656
  ·rw [if_pos c4] at H
   have c4b0:=eq_true c4;have c4b1:decide ((a1:Int).toNat≤281474976710656)=true:=decide_eq_true c4;clear c4;obtain ⟨y579,hy579⟩:∃ y_:List Int,y_=(List.replicate (a1:Int).toNat 0):=⟨_,rfl⟩
   replace H:(impl_put.l0 k a0 a1 y579 (y579.length:Int) 0)=some r:=by first|(rw [hy579];with_reducible exact H)|(have H2_:=(Option.bind_some _ _).symm.trans H;rw [hy579];with_reducible exact H2_)|(have H2_:=(Option.bind_some _ _).symm.trans H;with_reducible exact H2_)|with_reducible exact H|(rw [hy579];exact H)|exact H
   have Ny579 := D hy579; clear hy579; have H' := D H; clear H; go_enter Try.func74, Try.ntmps74
   go_wp2_with (first|((with_reducible refine gate_dst (N:=8) rfl ?_);refine Kd.R_make (Kd.int .u8) _ 5 rfl (N:=8) rfl 22 _ _ rfl a1 rfl rfl Try.underlying22 (.int .u8 0) 1 info5 rfl (by decide) (by omega) 0 (ok:=fun _=>True) (okp:=fun _=>True) rfl (fun _ hk=>hk) trivial (od_ Z21) (Nat.le_trans (Nat.mul_le_mul_right _ (od_ Z21:a1.toNat≤281474976710656)) (by omega)) (Below.refl _ _) (Nat.le_refl _) ?_;intro v580 w5 ho6 hb hg_ hnew_;clear hg_ hnew_;(first|rw [← Ny579.out] at ho6|(simp only [Int.reduceToNat] at ho6;rw [← Ny579.out] at ho6));have n_:=an_ (Kd.R_lower ho6 (below_size (pB_ HB.out)))<|D (below_step (pB_ HB.out) hb);clear HB;obtain ⟨HO581,HB⟩:=n_;clear hb ho6;obtain ⟨Ao7,co7,eo7⟩:=Kd.R_slice HO581.out;subst eo7))
   go_loopg [11] k (fun kq v11 w'=>∃ (x5_1:List Int) (x11_1:Int),v11=I L x11_1∧Aside0 (impl_put.l0 kq a0 a1 x5_1 (y579.length:Int) x11_1=some r)∧Aside0 (kq≤k)∧Aside0 (Kd.R (Kd.int .u8) 5 w' w.heap.size (fun _=>True) (Y Ao7 y579.length co7) x5_1)∧Aside0 (Below w.heap.size w w'))
   case atStart => exact ⟨(y579), (0), Z22, H', ⟨Nat.le_refl _⟩, ⟨pR_ HO581.out⟩, ⟨pB_ HB.out⟩⟩
   case round =>
    clear H'
    (try clear p2);(try clear c3);(try clear c3b0);(try clear c3b1);(try clear c4);(try clear c4b0);(try clear c4b1);(try clear c7)
    obtain ⟨x5_1, x11_1, rfl, HA, HK1, HO_5, HB⟩ := hrel; have hl5_1 := (Kd.R_reads' HO_5.out).1; rw [hl5_1] at HO_5; (try simp only [hl5_1])
    cases gk with
    | zero => exact absurd HA.out (by simp [impl_put.l0])
    | succ k1 =>
     have H := HA.out; clear HA; simp only [impl_put.l0] at H
     by_cases c8 : x11_1 < (y579.length : Int)
     ·rw [if_pos c8] at H
      have c8b0:decide (x11_1 < (y579.length:Int))=true:=decide_eq_true c8;clear c8;(try (have c8h:=c8b0;simp only [hl5_1] at c8h));obtain ⟨ji9,hji9⟩:∃ j_:Int,(wrap64 (8 * (wrap64 ((wrap64 (a1 - 1)) - x11_1))))=j_:=⟨_,rfl⟩
      replace H:(if 0≤(ji9) then (if 0≤x11_1 then (if x11_1 < (x5_1.length:Int) then (impl_put.l0 k1 a0 a1 (x5_1.set (x11_1:Int).toNat ((shr .i64 a0 (ji9)) % 256)) (y579.length:Int) (wrap64 (x11_1 + 1))) else (none)) else (none)) else (none))=some r:=by first|(rw [hji9] at H;exact H)|(simp only [hji9] at H ⊢;exact H)
      have hji9w : (IntKind.i64.wrap (8 * (wrap64 ((wrap64 (a1 - 1)) - x11_1)))) = ji9 := (i64_w _).trans hji9
      by_cases c10 : 0 ≤ (ji9)
      ·rw [if_pos c10] at H
       have c10b0 := eq_true c10; have c10b1 : decide (0 ≤ (ji9)) = true := decide_eq_true c10; clear c10; obtain ⟨ji11, hji11⟩ : ∃ j_ : Int, (shr .i64 a0 (ji9)) = j_ := ⟨_, rfl⟩
       replace H:(if 0≤x11_1 then (if x11_1 < (x5_1.length:Int) then (impl_put.l0 k1 a0 a1 (x5_1.set (x11_1:Int).toNat ((ji11) % 256)) (y579.length:Int) (wrap64 (x11_1 + 1))) else (none)) else (none))=some r:=by first|(rw [hji11] at H;exact H)|(simp only [hji11] at H ⊢;exact H)
       have hji11_ : (a0 / 2 ^ min (ji9).toNat 64) = ji11 := hji11; have hji11z : (ji9) ≤ 64 → (a0 / 2 ^ (ji9).toNat) = ji11 := shr_small hji11
       by_cases c12 : 0 ≤ x11_1
       ·rw [if_pos c12] at H
        have c12b0 : decide (0 ≤ x11_1) = true := decide_eq_true c12; clear c12
        by_cases c13 : x11_1 < (x5_1.length : Int)
        ·rw [if_pos c13] at H
         have c13b0:decide (x11_1 < (x5_1.length:Int))=true:=decide_eq_true c13;clear c13;(try (have c13h:=c13b0;simp only [hl5_1] at c13h));obtain ⟨y582,hy582⟩:∃ y_:List Int,y_=(x5_1.set (x11_1:Int).toNat ((ji11) % 256)):=⟨_,rfl⟩
         replace H:(impl_put.l0 k1 a0 a1 y582 (y579.length:Int) (wrap64 (x11_1 + 1)))=some r:=by first|(rw [hy582];with_reducible exact H)|(have H2_:=(Option.bind_some _ _).symm.trans H;rw [hy582];with_reducible exact H2_)|(have H2_:=(Option.bind_some _ _).symm.trans H;with_reducible exact H2_)|with_reducible exact H|(rw [hy582];exact H)|exact H
         have Ny582:=D hy582;clear hy582;have H':=D H;clear H;have p14:0≤(x11_1:Int):=od_ Z21;have q14:(x11_1:Int) < ((x5_1.length:Int):Int):=od_ Z21;obtain ⟨go14,co14,eo14,gb14,gl14,cl14,HG14⟩:=Kd.R_form HO_5.out (by omega);(first|cases eo14|(injection eo14 with ea_ en_ ec_;(first|subst ea_|(injection ea_ with ea_;subst ea_));subst ec_;clear en_));have GB14:=D gb14;have GG14:=D HG14;clear gb14 gl14 HG14;obtain ⟨hx14_0,hf14_0⟩:=Kd.R_celln 0 HO_5.out (x11_1:Int) p14 q14;replace p14:=eq_true p14;replace q14:=eq_true q14;have HP15:=Kd.R_putg HO_5.out (x11_1:Int) ((ji11) % 256)
         go_wp2_with (first|((with_reducible refine gate_store (t:=5) (p:=24) rfl ?_);refine store_event (t:=5) (p:=24) (v:=?vo_w16) (w1:=(wr.setCell ⟨go14,(x11_1:Int).toNat,none⟩ (.int .u8 ((ji11) % 256)))) ?hg ?ho ?hn ?hr ?_;(case ho=>rfl);(case hg=>rfl);(case hn=>rfl);(case hr=>first|(go_simp;done)|(go_simp;rfl));intro w16 hw;have hg:wr.grownBy w16 (some go14):=(by rw [hw];exact HP15.2);have hp_:Kd.R (Kd.int .u8) 5 w16 w.heap.size (fun _=>True) (Y (some ⟨go14,0,none⟩) x5_1.length co7) y582:=(by rw [hw,Ny582.out];exact HP15.1);clear HP15;have n_:=an_ (hp_)<|D (by rw [hw];exact below_set (HB.out) GB14.out:Below w.heap.size w w16);clear HO_5 HB;obtain ⟨HO_5,HB⟩:=n_;clear hg hw hp_))
         (try simp only [← hl5_1]); go_roundg k1
         case measure => have := HK1.out; omega
         case rel=>exact ⟨(y582),(wrap64 (x11_1 + 1)),Z22,H',⟨by have:=HK1.out;omega⟩,⟨by (try simp only [hl5_1]);(with_reducible repeat (first|apply Kd.R_alloc|apply Kd.R_drewN|apply Kd.R_drew));exact HO_5.out⟩,⟨pB_ HB.out⟩⟩
        ·rw [if_neg c13] at H
         exact absurd H (by simp)
       ·rw [if_neg c12] at H
        exact absurd H (by simp)
      ·rw [if_neg c10] at H
       exact absurd H (by simp)
     ·rw [if_neg c8] at H
      have c8b0 : decide (x11_1 < (y579.length : Int)) = false := decide_eq_false c8; clear c8; (try (have c8h := c8b0; simp only [hl5_1] at c8h)); obtain rfl := Option.some.inj H
      go_wp2
      go_ret;exact ⟨_,er_,by (with_reducible repeat (first|apply Kd.R_alloc|apply Kd.R_drewN|apply Kd.R_drew));exact HO_5.out,pB_ HB.out⟩
  ·rw [if_neg c4] at H
   exact absurd H (by simp)
 ·rw [if_neg c3] at H
  exact absurd H (by simp)

end Go.Proofs.Ytoacddcbiceeeab.PFnCostAdds
