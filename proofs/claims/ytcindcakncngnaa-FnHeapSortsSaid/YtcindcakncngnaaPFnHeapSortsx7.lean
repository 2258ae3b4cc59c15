-- by a program of this session's, over the kit's words
import Derived.Test.YtcindcakncngnaaPZFnHeapSorts
import Derived.Test.YtcindcakncngnaaPFnHeapSortsx0
namespace Go.Proofs.Ytcindcakncngnaa.PFnHeapSorts
open Go.RowKit Go.Proofs.YtcindcakncngnaaW.PrintWords Go.Proofs.YtcindcakncngnaaW.PrintLast Go.Proofs.YtcindcakncngnaaW.PrintMore Go.Proofs.YtcindcakncngnaaV Go.Proofs.Ytcindcakncngnaa.ZFnHeapSorts
open Go.Value renaming int → I, slice → Y
open Go.IntKind renaming i64 → L
open Aside0 renaming mk → D
open Option renaming bind_eq_some_iff → bs_
attribute [local go_sem] max2_int min2_int max_two min_two max_three min_three max_four min_four   -- for this text's walks alone
set_option linter.unusedVariables false
set_option linter.unusedSimpArgs false

/-! ### impl_Ahead: function 20 -/
def impl_Ahead.f (a0_0 a0_1 a1_0 a1_1 : Int) : Option (Bool) := if a0_0 < a1_0 then (some true) else (if a0_0 = a1_0 then (some (decide (a0_1 < a1_1))) else (some false))
set_option maxHeartbeats 8000000 in
set_option maxRecDepth 100000 in
theorem impl_Ahead.calls (a0_0 a0_1 a1_0 a1_1 : Int) (r : Bool) (w : World) (h : impl_Ahead.f a0_0 a0_1 a1_0 a1_1 = some r) :
  Calls Try.prog 20 #[.agg #[I L a0_0, I L a0_1], .agg #[I L a1_0, I L a1_1]] w fun e w' => e = .returned (.bool r) ∧ Below w.heap.size w w' := by
 have hu32 := Try.underlying32
 have HB := D (Below.refl w.heap.size w)
 have H : (if a0_0 < a1_0 then (some true) else (if a0_0 = a1_0 then (some (decide (a0_1 < a1_1))) else (some false))) = some r := h
 clear h
 by_cases c3 : a0_0 < a1_0
 ·rw [if_pos c3] at H
  have c3b0 : decide (a0_0 < a1_0) = true := decide_eq_true c3; clear c3; obtain rfl := Option.some.inj H; go_enter Try.func20, Try.ntmps20
  go_wp2_with (first|((with_reducible refine gate_dst (N:=2) rfl ?_);refine bx_ (N:=2) (cs:=#[I L a0_0,I L a0_1]) (t:=32) ?_;intro gb267 hg w4 hbox hb;have n_:=an_ (below_step (pB_ HB.out) hb)<|an_ (hbox)<|an_ (bg_ hg (pB_ HB.out):w.heap.size≤gb267)<|D (bg_ hg (pB_ HB.out):w.heap.size≤gb267);clear HB;obtain ⟨HB,BK267,GW267,GE267⟩:=n_;clear hb hbox hg)|((with_reducible refine gate_dst (N:=3) rfl ?_);refine bx_ (N:=3) (cs:=#[I L a1_0,I L a1_1]) (t:=32) ?_;intro gb268 hg w5 hbox hb;have n_:=an_ (blk_below (pk_ BK267.out) hb)<|an_ (below_step (pB_ HB.out) hb)<|an_ (hbox)<|an_ (bg_ hg (pB_ HB.out):w.heap.size≤gb268)<|an_ (bg_ hg (pB_ HB.out):w.heap.size≤gb268)<|an_ (nl_ hg (pk_ BK267.out):gb267≠gb268)<|D (by rw [hg];exact Nat.ne_of_gt (blk_lt (pk_ BK267.out)):gb268≠gb267);clear BK267 HB;obtain ⟨BK267,HB,BK268,GW268,GE268,NB267_268,NB268_267⟩:=n_;clear hb hbox hg;(try have:=NB267_268.out);(try have:=NB268_267.out);have hcz7_0:=cells2 BK267.out;have hcz8_0:=cells2 BK268.out))
  go_ret; exact ⟨er_, pB_ HB.out⟩
 ·rw [if_neg c3] at H
  have c3b0 : decide (a0_0 < a1_0) = false := decide_eq_false c3; clear c3
  by_cases c9 : a0_0 = a1_0
  ·rw [if_pos c9] at H
   have c9b0:(a0_0 == a1_0)=true:=beq_iff_eq.mpr c9;have c9b1:(a0_0 != a1_0)=false:=bne_eq_false_iff_eq.mpr c9;clear c9;obtain rfl:=Option.some.inj H;go_enter Try.func20,Try.ntmps20
   go_wp2_with (first|((with_reducible refine gate_dst (N:=2) rfl ?_);refine bx_ (N:=2) (cs:=#[I L a0_0,I L a0_1]) (t:=32) ?_;intro gb267 hg w10 hbox hb;have n_:=an_ (below_step (pB_ HB.out) hb)<|an_ (hbox)<|an_ (bg_ hg (pB_ HB.out):w.heap.size≤gb267)<|D (bg_ hg (pB_ HB.out):w.heap.size≤gb267);clear HB;obtain ⟨HB,BK267,GW267,GE267⟩:=n_;clear hb hbox hg)|((with_reducible refine gate_dst (N:=3) rfl ?_);refine bx_ (N:=3) (cs:=#[I L a1_0,I L a1_1]) (t:=32) ?_;intro gb268 hg w11 hbox hb;have n_:=an_ (blk_below (pk_ BK267.out) hb)<|an_ (below_step (pB_ HB.out) hb)<|an_ (hbox)<|an_ (bg_ hg (pB_ HB.out):w.heap.size≤gb268)<|an_ (bg_ hg (pB_ HB.out):w.heap.size≤gb268)<|an_ (nl_ hg (pk_ BK267.out):gb267≠gb268)<|D (by rw [hg];exact Nat.ne_of_gt (blk_lt (pk_ BK267.out)):gb268≠gb267);clear BK267 HB;obtain ⟨BK267,HB,BK268,GW268,GE268,NB267_268,NB268_267⟩:=n_;clear hb hbox hg;(try have:=NB267_268.out);(try have:=NB268_267.out);have hcz13_0:=cells2 BK267.out;have hcz14_0:=cells2 BK268.out))
   go_ret; exact ⟨er_, pB_ HB.out⟩
  ·rw [if_neg c9] at H
   have c9b0 : (a0_0 == a1_0) = false := beq_eq_false_iff_ne.mpr c9; have c9b1 : (a0_0 != a1_0) = true := bne_iff_ne.mpr c9; obtain rfl := Option.some.inj H; go_enter Try.func20, Try.ntmps20
   go_wp2_with (first|((with_reducible refine gate_dst (N:=2) rfl ?_);refine bx_ (N:=2) (cs:=#[I L a0_0,I L a0_1]) (t:=32) ?_;intro gb267 hg w15 hbox hb;have n_:=an_ (below_step (pB_ HB.out) hb)<|an_ (hbox)<|an_ (bg_ hg (pB_ HB.out):w.heap.size≤gb267)<|D (bg_ hg (pB_ HB.out):w.heap.size≤gb267);clear HB;obtain ⟨HB,BK267,GW267,GE267⟩:=n_;clear hb hbox hg)|((with_reducible refine gate_dst (N:=3) rfl ?_);refine bx_ (N:=3) (cs:=#[I L a1_0,I L a1_1]) (t:=32) ?_;intro gb268 hg w16 hbox hb;have n_:=an_ (blk_below (pk_ BK267.out) hb)<|an_ (below_step (pB_ HB.out) hb)<|an_ (hbox)<|an_ (bg_ hg (pB_ HB.out):w.heap.size≤gb268)<|an_ (bg_ hg (pB_ HB.out):w.heap.size≤gb268)<|an_ (nl_ hg (pk_ BK267.out):gb267≠gb268)<|D (by rw [hg];exact Nat.ne_of_gt (blk_lt (pk_ BK267.out)):gb268≠gb267);clear BK267 HB;obtain ⟨BK267,HB,BK268,GW268,GE268,NB267_268,NB268_267⟩:=n_;clear hb hbox hg;(try have:=NB267_268.out);(try have:=NB268_267.out);have hcz18_0:=cells2 BK267.out;have hcz19_0:=cells2 BK268.out))
   go_ret; exact ⟨er_, pB_ HB.out⟩

/-! ### impl_within: function 36 -/
def impl_within.f (a0 a1 a2 : Int) : Option (Bool) := if a0 ≥ a1 then (some (decide (a0 ≤ a2))) else (some false)
set_option maxHeartbeats 8000000 in
set_option maxRecDepth 100000 in
theorem impl_within.calls (a0 a1 a2 : Int) (r : Bool) (w : World) (h : impl_within.f a0 a1 a2 = some r) :
  Calls Try.prog 36 #[I L a0, I L a1, I L a2] w fun e w' => e = .returned (.bool r) ∧ Drawn0 w w' := by
 have H : (if a0 ≥ a1 then (some (decide (a0 ≤ a2))) else (some false)) = some r := h
 clear h
 by_cases c4 : a0 ≥ a1
 ·rw [if_pos c4] at H
  have c4b0 : decide (a1 ≤ a0) = true := decide_eq_true c4; clear c4; obtain rfl := Option.some.inj H; go_enter Try.func36, Try.ntmps36
  go_wp2
  go_ret; exact ⟨by first | rfl | (simp; done) | (simp [*]; done), by repeat (first | exact Drawn0.refl _ | apply Drawn0.step)⟩
 ·rw [if_neg c4] at H
  have c4b0 : decide (a1 ≤ a0) = false := decide_eq_false c4; clear c4; obtain rfl := Option.some.inj H; go_enter Try.func36, Try.ntmps36
  go_wp2
  go_ret; exact ⟨by first | rfl | (simp; done) | (simp [*]; done), by repeat (first | exact Drawn0.refl _ | apply Drawn0.step)⟩

/-! ### impl_ItemOk: function 27 -/
def impl_ItemOk.f (a0_0 a0_1 : Int) : Option (Bool) := (impl_within.f a0_0 0 1000000000000).bind fun t270 => (if t270 = true then ((impl_within.f a0_1 0 9999).bind fun t271 => (some t271)) else (some false))
set_option maxHeartbeats 8000000 in
set_option maxRecDepth 100000 in
theorem impl_ItemOk.calls (a0_0 a0_1 : Int) (r : Bool) (w : World) (h : impl_ItemOk.f a0_0 a0_1 = some r) :
  Calls Try.prog 27 #[.agg #[I L a0_0, I L a0_1]] w fun e w' => e = .returned (.bool r) ∧ Below w.heap.size w w' := by
 have hu32 := Try.underlying32
 have HB := D (Below.refl w.heap.size w)
 have H : ((impl_within.f a0_0 0 1000000000000).bind fun t270 => (if t270 = true then ((impl_within.f a0_1 0 9999).bind fun t271 => (some t271)) else (some false))) = some r := h
 clear h
 obtain ⟨t270, A20, H⟩ := bs_.mp H
 (try dsimp only at H)
 have A2 := D A20
 clear A20
 by_cases c3 : t270 = true
 ·subst c3
  rw [if_pos rfl] at H;obtain ⟨t271,A40,H⟩:=bs_.mp H;(try dsimp only at H);have A4:=D A40;clear A40;obtain rfl:=Option.some.inj H;go_enter Try.func27,Try.ntmps27
  go_wp2_with (first|((with_reducible refine gate_dst (N:=1) rfl ?_);refine bx_ (N:=1) (cs:=#[I L a0_0,I L a0_1]) (t:=32) ?_;intro gb269 hg w5 hbox hb;have n_:=an_ (below_step (pB_ HB.out) hb)<|an_ (hbox)<|an_ (bg_ hg (pB_ HB.out):w.heap.size≤gb269)<|D (bg_ hg (pB_ HB.out):w.heap.size≤gb269);clear HB;obtain ⟨HB,BK269,GW269,GE269⟩:=n_;clear hb hbox hg;have hcz6_0:=cells2 BK269.out)|((with_reducible refine gate_callee (f:=36) rfl ?_);refine goesL_ (some 5) rfl rfl Try.func36 (by kernel_rfl) rfl #[I L a0_0,I L 0,I L 1000000000000] rfl Z9 ?_;(with_reducible refine (impl_within.calls a0_0 0 1000000000000 true _ A2.out).mono ?_);rintro e w' ⟨rfl,⟨nd,rfl⟩⟩;refine ⟨_,rfl,?_⟩)|(go_at_call 36;(with_reducible refine (impl_within.calls a0_1 0 9999 t271 _ A4.out).mono ?_);rintro e w' ⟨rfl,⟨nd,rfl⟩⟩))
  go_ret; exact ⟨er_, pB_ HB.out⟩
 ·replace c3 := Bool.eq_false_iff.mpr c3
  subst c3; rw [if_neg (show ¬ (false = true) by decide)] at H; obtain rfl := Option.some.inj H; go_enter Try.func27, Try.ntmps27
  go_wp2_with (first|((with_reducible refine gate_dst (N:=1) rfl ?_);refine bx_ (N:=1) (cs:=#[I L a0_0,I L a0_1]) (t:=32) ?_;intro gb269 hg w7 hbox hb;have n_:=an_ (below_step (pB_ HB.out) hb)<|an_ (hbox)<|an_ (bg_ hg (pB_ HB.out):w.heap.size≤gb269)<|D (bg_ hg (pB_ HB.out):w.heap.size≤gb269);clear HB;obtain ⟨HB,BK269,GW269,GE269⟩:=n_;clear hb hbox hg;have hcz8_0:=cells2 BK269.out)|((with_reducible refine gate_callee (f:=36) rfl ?_);refine goesL_ (some 5) rfl rfl Try.func36 (by kernel_rfl) rfl #[I L a0_0,I L 0,I L 1000000000000] rfl Z9 ?_;(with_reducible refine (impl_within.calls a0_0 0 1000000000000 false _ A2.out).mono ?_);rintro e w' ⟨rfl,⟨nd,rfl⟩⟩;refine ⟨_,rfl,?_⟩))
  go_ret; exact ⟨er_, pB_ HB.out⟩

/-! ### slices_IndexFunc_impl_Item_impl_Item: function 37 -/
def slices_IndexFunc_impl_Item_impl_Item.l0 : Nat → List (S32) → (Int → Int → Option (Bool)) → Int → Int → Option (Int)
 | 0, _, _, _, _ => none
 | k + 1,x0,x1,x7,x8=>if x8 < x7 then (if 0≤x8 then (if x8 < (x0.length:Int) then ((x1 ((rd_T32 x0 x8).f0) ((rd_T32 x0 x8).f1)).bind fun t273=>(if t273=true then (some x8) else (slices_IndexFunc_impl_Item_impl_Item.l0 k x0 x1 x7 (wrap64 (x8 + 1))))) else (none)) else (none)) else (some (-1))
def slices_IndexFunc_impl_Item_impl_Item.f (k : Nat) (l0 : List (S32)) (a1 : (Int → Int → Option (Bool))) : Option (Int) := slices_IndexFunc_impl_Item_impl_Item.l0 k l0 a1 (l0.length : Int) 0
set_option maxHeartbeats 8000000 in
set_option maxRecDepth 100000 in
theorem slices_IndexFunc_impl_Item_impl_Item.calls (k : Nat) (A0 : Option Addr) (c0 : Nat) (l0 : List (S32)) (a1 : (Int → Int → Option (Bool))) (fn1 : Nat) (cp1 : Array Value) (r : Int) (w : World) (hr0 : Kd.C k32 w A0 l0.length l0) (hc0 : l0.length ≤ c0) (hq1 : Aside0 (∃ F_, Try.prog.funcs[fn1]? = some F_ ∧ (F_.name == "runtime.NumGoroutine") = false ∧ F_.body.isSome = true)) (HP1_37 : Aside0 (∀ (a900_0 a900_1 : Int) (rr0_ : Bool) (W_ : World), Below w.heap.size w W_ → a1 a900_0 a900_1 = some rr0_ → Calls Try.prog fn1 (#[.agg #[I L a900_0, I L a900_1]] ++ cp1) W_ (fun e w' => e = .returned (.bool rr0_) ∧ Below W_.heap.size W_ w'))) (h : slices_IndexFunc_impl_Item_impl_Item.f k l0 a1 = some r) :
  Calls Try.prog 37 #[Y A0 l0.length c0, .func (.func fn1) #[] cp1] w fun e w' => e = .returned (I L r) ∧ Below w.heap.size w w' := by
 have hu32 := Try.underlying32
 have HR0 := D hr0
 have HC0 := D hc0
 clear hr0 hc0
 have HB := D (Below.refl w.heap.size w)
 have H : (slices_IndexFunc_impl_Item_impl_Item.l0 k l0 a1 (l0.length : Int) 0) = some r := h
 clear h
 have H' := D H
 clear H
 go_enter Try.func37, Try.ntmps37
 go_wp2
 go_loopg [8] k (fun kq v8 w'=>∃ (x8_1:Int),v8=I L x8_1∧Aside0 (slices_IndexFunc_impl_Item_impl_Item.l0 kq l0 a1 (l0.length:Int) x8_1=some r)∧Aside0 (kq≤k)∧Aside0 (Below w.heap.size w w'))
 case atStart => exact ⟨(0), Z23, H', ⟨Nat.le_refl _⟩, ⟨pB_ HB.out⟩⟩
 case round =>
  clear H'
  try clear p2
  obtain ⟨x8_1, rfl, HA, HK1, HB⟩ := hrel
  cases gk with
  | zero => exact absurd HA.out (by simp [slices_IndexFunc_impl_Item_impl_Item.l0])
  | succ k1 =>
   have H := HA.out; clear HA; simp only [slices_IndexFunc_impl_Item_impl_Item.l0] at H
   by_cases c3 : x8_1 < (l0.length : Int)
   ·rw [if_pos c3] at H
    have c3b0 : decide (x8_1 < (l0.length : Int)) = true := decide_eq_true c3; clear c3
    by_cases c4 : 0 ≤ x8_1
    ·rw [if_pos c4] at H
     have c4b0 : decide (0 ≤ x8_1) = true := decide_eq_true c4; clear c4
     by_cases c5 : x8_1 < (l0.length : Int)
     ·rw [if_pos c5] at H
      have c5b0:decide (x8_1 < (l0.length:Int))=true:=decide_eq_true c5;clear c5;obtain ⟨t273,A60,H⟩:=bs_.mp H;(try dsimp only at H);have A6:=D A60;clear A60;have HU7:=D H;clear H;have p272:0≤(x8_1:Int):=od_ Z22;have q272:x8_1 < (l0.length:Int):=od_ Z22;obtain ⟨ad272,e272,hx272_0,hx272_1⟩:=at_T32 HR0.out x8_1 p272 q272;cases e272;replace hx272_0:=rc_ HB.out hx272_0;replace hx272_1:=rc_ HB.out hx272_1;replace p272:=eq_true p272;replace q272:=eq_true q272
      go_upto_if 16 with (first|((with_reducible refine gate_calleeV (j:=11) rfl ?_);obtain ⟨_,hF1_,hF2_,hF3_⟩:=hq1.out;refine goesVL_ (some 16) rfl rfl hF1_ hF2_ hF3_ #[.agg #[I L ((rd_T32 l0 x8_1).f0),I L ((rd_T32 l0 x8_1).f1)]] (cp:=cp1) rfl (by first|rfl|(go_simp;done)|simp) Z9 ?_;(with_reducible refine (HP1_37.out ((rd_T32 l0 x8_1).f0) ((rd_T32 l0 x8_1).f1) t273 _ ?side1 A6.out).mono ?_);(case side1=>exact pB_ HB.out);rintro e w8 ⟨rfl,hb⟩;refine ⟨_,rfl,?_⟩;have n0_:=D (below_step (pB_ HB.out) hb);clear HB;have HB:=n0_;clear n0_;(try clear hb)))
      have H := HU7.out; clear HU7
      by_cases c9 : t273 = true
      ·subst c9
       rw [if_pos rfl] at H; obtain rfl := Option.some.inj H
       go_wp2
       go_ret; exact ⟨er_, pB_ HB.out⟩
      ·replace c9 := Bool.eq_false_iff.mpr c9
       subst c9; rw [if_neg (show ¬ (false = true) by decide)] at H; have H' := D H; clear H
       go_wp2
       go_roundg k1
       case measure => have := HK1.out; omega
       case rel => exact ⟨(wrap64 (x8_1 + 1)), Z23, H', ⟨by have := HK1.out; omega⟩, ⟨pB_ HB.out⟩⟩
     ·rw [if_neg c5] at H
      exact absurd H (by simp)
    ·rw [if_neg c4] at H
     exact absurd H (by simp)
   ·rw [if_neg c3] at H
    have c3b0 : decide (x8_1 < (l0.length : Int)) = false := decide_eq_false c3; clear c3; obtain rfl := Option.some.inj H
    go_wp2
    go_ret; exact ⟨er_, pB_ HB.out⟩

/-! ### impl_Heap_place_1: function 38 -/
def impl_Heap_place_1.f (a0_0 a0_1 a1_0 : Int) : Option (Bool) := some (a0_1 == a1_0)
set_option maxHeartbeats 8000000 in
set_option maxRecDepth 100000 in
theorem impl_Heap_place_1.calls (a0_0 a0_1 : Int) (gc1 : Nat) (a1_0 : Int) (r : Bool) (w : World) (hbx1 : w.heap[gc1]? = some (.cells #[I L a1_0] 3 (0, 0))) (h : impl_Heap_place_1.f a0_0 a0_1 a1_0 = some r) :
  Calls Try.prog 38 #[.agg #[I L a0_0, I L a0_1], .pointer (some ⟨gc1, 0, none⟩)] w fun e w' => e = .returned (.bool r) ∧ Below w.heap.size w w' := by
 have hu32 := Try.underlying32
 have BK1 := D hbx1
 clear hbx1
 have HB := D (Below.refl w.heap.size w)
 have H : (some (a0_1 == a1_0)) = some r := h
 clear h
 obtain rfl := Option.some.inj H
 go_enter Try.func38, Try.ntmps38
 go_wp2_with (first|((with_reducible refine gate_dst (N:=2) rfl ?_);refine bx_ (N:=2) (cs:=#[I L a0_0,I L a0_1]) (t:=32) ?_;intro gb274 hg w3 hbox hb;have n_:=an_ (blk_below (pk_ BK1.out) hb)<|an_ (below_step (pB_ HB.out) hb)<|an_ (hbox)<|an_ (bg_ hg (pB_ HB.out):w.heap.size≤gb274)<|an_ (bg_ hg (pB_ HB.out):w.heap.size≤gb274)<|an_ (nl_ hg (pk_ BK1.out):gc1≠gb274)<|D (by rw [hg];exact Nat.ne_of_gt (blk_lt (pk_ BK1.out)):gb274≠gc1);clear BK1 HB;obtain ⟨BK1,HB,BK274,GW274,GE274,NB1_274,NB274_1⟩:=n_;clear hb hbox hg;(try have:=NB274_1.out);(try have:=NB1_274.out);have hcz5_0:=cells2 BK274.out;have hcz6_0:=cells1 BK1.out))
 go_ret
 exact ⟨er_, pB_ HB.out⟩

/-! ### impl_Heap_place: function 28 -/
def impl_Heap_place.f (k : Nat) (l0_0 : List (S32)) (a1 : Int) : Option (Int) := (slices_IndexFunc_impl_Item_impl_Item.f k l0_0 (fun z0_ z1_ => impl_Heap_place_1.f z0_ z1_ a1)).bind fun t277 => (some t277)
set_option maxHeartbeats 8000000 in
set_option maxRecDepth 100000 in
theorem impl_Heap_place.calls (k : Nat) (A0_0 : Option Addr) (c0_0 : Nat) (l0_0 : List (S32)) (a1 r : Int) (w : World) (hr0_0 : Kd.C k32 w A0_0 l0_0.length l0_0) (hc0_0 : l0_0.length ≤ c0_0) (h : impl_Heap_place.f k l0_0 a1 = some r) :
  Calls Try.prog 28 #[.agg #[Y A0_0 l0_0.length c0_0], I L a1] w fun e w' => e = .returned (I L r) ∧ Below w.heap.size w w' := by
 have hu26 := Try.underlying26
 have hmf : ∀ (fn : Fn) (first cap : Array Value) (w : World), (Instr.makeFunc fn first cap).run Try.prog w = .ok (.func fn first cap) w := fun _ _ _ _ => rfl
 have HR0_0 := D hr0_0
 have HC0_0 := D hc0_0
 clear hr0_0 hc0_0
 have HB := D (Below.refl w.heap.size w)
 have H : ((slices_IndexFunc_impl_Item_impl_Item.f k l0_0 (fun z0_ z1_ => impl_Heap_place_1.f z0_ z1_ a1)).bind fun t277 => (some t277)) = some r := h
 clear h
 obtain ⟨t277, A30, H⟩ := bs_.mp H
 (try dsimp only at H)
 have A3 := D A30
 clear A30
 obtain rfl := Option.some.inj H
 go_enter Try.func28, Try.ntmps28
 go_wp2_with (first|((with_reducible refine gate_dst (N:=2) rfl ?_);refine bx_ (N:=2) (cs:=#[Y A0_0 l0_0.length c0_0]) (t:=26) ?_;intro gb275 hg w4 hbox hb;have n_:=an_ (below_step (pB_ HB.out) hb)<|an_ (hbox)<|an_ (bg_ hg (pB_ HB.out):w.heap.size≤gb275)<|D (bg_ hg (pB_ HB.out):w.heap.size≤gb275);clear HB;obtain ⟨HB,BK275,GW275,GE275⟩:=n_;clear hb hbox hg)|((with_reducible refine gate_dst (N:=3) rfl ?_);refine bx_ (N:=3) (cs:=#[I L a1]) (t:=3) ?_;intro gb276 hg w5 hbox hb;have n_:=an_ (blk_below (pk_ BK275.out) hb)<|an_ (below_step (pB_ HB.out) hb)<|an_ (hbox)<|an_ (bg_ hg (pB_ HB.out):w.heap.size≤gb276)<|an_ (bg_ hg (pB_ HB.out):w.heap.size≤gb276)<|an_ (nl_ hg (pk_ BK275.out):gb275≠gb276)<|D (by rw [hg];exact Nat.ne_of_gt (blk_lt (pk_ BK275.out)):gb276≠gb275);clear BK275 HB;obtain ⟨BK275,HB,BK276,GW276,GE276,NB275_276,NB276_275⟩:=n_;clear hb hbox hg;(try have:=NB275_276.out);(try have:=NB276_275.out);have hcz7_0:=cells1 BK275.out)|((with_reducible refine gate_callee (f:=37) rfl ?_);refine goesL_ (some 8) rfl rfl Try.func37 (by kernel_rfl) rfl #[Y A0_0 l0_0.length c0_0,.func (.func 38) #[] #[.pointer (some ⟨gb276,0,none⟩)]] rfl Z9 ?_;(with_reducible refine (slices_IndexFunc_impl_Item_impl_Item.calls k _ _ l0_0 (fun z0_ z1_=>impl_Heap_place_1.f z0_ z1_ a1) 38 #[.pointer (some ⟨gb276,0,none⟩)] t277 _ ?side1 ?side2 ?side3 ?side4 A3.out).mono ?_);(case side1=>exact pC_ (Kd.C_below HR0_0.out HB.out));(case side2=>exact HC0_0.out);(case side3=>exact ⟨⟨_,Try.func38,by kernel_rfl,rfl⟩⟩);(case side4=>refine ⟨?_⟩;intro a900_0 a900_1 rr0_ W_ hW_ h_;refine calls_of_args (args':=#[.agg #[I L a900_0,I L a900_1],.pointer (some ⟨gb276,0,none⟩)]) (by simp) ?_;refine (impl_Heap_place_1.calls a900_0 a900_1 gb276 a1 rr0_ W_ (blk_below (pk_ BK276.out) hW_) h_).mono ?_;rintro e w' ⟨rfl,hd_⟩;exact ⟨rfl,hd_⟩);rintro e w8 ⟨rfl,hb⟩;refine ⟨_,rfl,?_⟩;have n_:=an_ (blk_below (pk_ BK275.out) hb)<|an_ (blk_below (pk_ BK276.out) hb)<|D (below_step (pB_ HB.out) hb);clear BK275 BK276 HB;obtain ⟨BK275,BK276,HB⟩:=n_;(try clear hb)))
 go_ret
 exact ⟨er_, pB_ HB.out⟩

/-! ### impl_HeapOk: function 16 -/
def impl_HeapOk.l0 : Nat → List (S32) → Int → Int → List (S32) → Option (Bool)
 | 0, _, _, _, _ => none
 | k + 1,x6,x7,x8,x279000=>if x8 < x7 then (if 0≤x8 then (if x8 < (x6.length:Int) then ((impl_ItemOk.f ((rd_T32 x6 x8).f0) ((rd_T32 x6 x8).f1)).bind fun t281=>(if t281=true then ((impl_Heap_place.f k x279000 ((rd_T32 x6 x8).f1)).bind fun t282=>(if t282=x8 then (if x8 > 0 then (if 0≤(wrap64 (Int.tdiv (wrap64 (x8 - 1)) 2)) then (if (wrap64 (Int.tdiv (wrap64 (x8 - 1)) 2)) < (x279000.length:Int) then ((impl_Ahead.f ((rd_T32 x6 x8).f0) ((rd_T32 x6 x8).f1) ((rd_T32 x279000 (wrap64 (Int.tdiv (wrap64 (x8 - 1)) 2))).f0) ((rd_T32 x279000 (wrap64 (Int.tdiv (wrap64 (x8 - 1)) 2))).f1)).bind fun t284=>(if t284=true then (some false) else (impl_HeapOk.l0 k x6 x7 (wrap64 (x8 + 1)) x279000))) else (none)) else (none)) else (impl_HeapOk.l0 k x6 x7 (wrap64 (x8 + 1)) x279000)) else (some false))) else (some false))) else (none)) else (none)) else (some (decide ((x279000.length:Int)≤64)))
def impl_HeapOk.f (k : Nat) (l0_0 : List (S32)) : Option (Bool) := impl_HeapOk.l0 k l0_0 (l0_0.length : Int) 0 l0_0
def impl_HeapOk.T4 : Bool × List (List Nat × List Nat) := (true, [([], []), ([0], [0]), ([1], [1]), ([2, 1], [2]), ([3], [3]), ([3], [3]), ([5, 3], [3, 5]), ([4, 6, 3, 3], [3, 4, 6]), ([3], [3]), ([7, 8, 3], [3, 7, 8]), ([3, 9], [3, 9]), ([10, 7], [10]), ([11], [11]), ([12, 11], [11, 12]), ([13, 11, 11], [11, 13]), ([14], [14]), ([14], [14]), ([16, 14], [14, 16]), ([14], [14]), ([18, 14], [14, 18]), ([19, 14], [14, 19]), ([17, 20, 14], [14, 17, 20]), ([21, 14], [14, 21]), ([15, 22, 14, 14], [14, 15, 22]), ([14, 23, 11], [11, 14, 23]), ([11, 24], [11, 24])])
def impl_HeapOk.B4 : List Nat := [0, 1, 3, 7, 15, 15, 47, 127, 15, 511, 1023, 2047, 4095, 8191, 16383, 32767, 32767, 98303, 32767, 294911, 819199, 2064383, 4161535, 8388607, 16777215, 33554431]
theorem impl_HeapOk.tab4 : rtab .any (opsOf Try.f16 4) = impl_HeapOk.T4 := by kernel_rfl
theorem impl_HeapOk.bits4 : waitsOk impl_HeapOk.T4.2 impl_HeapOk.B4 = true := by kernel_rfl
set_option maxHeartbeats 8000000 in
set_option maxRecDepth 100000 in
theorem impl_HeapOk.calls (k : Nat) (A0_0 : Option Addr) (c0_0 : Nat) (l0_0 : List (S32)) (r : Bool) (w : World) (hr0_0 : Kd.C k32 w A0_0 l0_0.length l0_0) (hc0_0 : l0_0.length ≤ c0_0) (h : impl_HeapOk.f k l0_0 = some r) :
  Calls Try.prog 16 #[.agg #[Y A0_0 l0_0.length c0_0]] w fun e w' => e = .returned (.bool r) ∧ Below w.heap.size w w' := by
 have hu26 := Try.underlying26
 have hu32 := Try.underlying32
 have HR0_0 := D hr0_0
 have HC0_0 := D hc0_0
 clear hr0_0 hc0_0
 have HB := D (Below.refl w.heap.size w)
 have H : (impl_HeapOk.l0 k l0_0 (l0_0.length : Int) 0 l0_0) = some r := h
 clear h
 have H' := D H
 clear H
 go_enter Try.func16, Try.ntmps16
 go_wp2_with (first|((with_reducible refine gate_dst (N:=1) rfl ?_);refine bx_ (N:=1) (cs:=#[Y A0_0 l0_0.length c0_0]) (t:=26) ?_;intro Oa hg w2 hbox hb;have n_:=an_ (below_step (pB_ HB.out) hb)<|an_ (hbox)<|an_ (bg_ hg (pB_ HB.out):w.heap.size≤Oa)<|D (bg_ hg (pB_ HB.out):w.heap.size≤Oa);clear HB;obtain ⟨HB,Ka,Kc,Mc⟩:=n_;clear hb hbox hg;have Ub:=cells1 Ka.out))
 go_loopg [8] k (fun kq v8 w'=>∃ (x8_1:Int),v8=I L x8_1∧Aside0 (impl_HeapOk.l0 kq l0_0 (l0_0.length:Int) x8_1 l0_0=some r)∧Aside0 (kq≤k)∧Aside0 (w'.heap[Oa]?=some (.cells #[(Y A0_0 l0_0.length c0_0)] 26 (0,0)))∧Aside0 (Below w.heap.size w w'))
 case atStart => exact ⟨(0), Z23, H', ⟨Nat.le_refl _⟩, ⟨pk_ Ka.out⟩, ⟨pB_ HB.out⟩⟩
 case round =>
  clear H'
  (try clear c1);(try clear p2);(try clear Ub)
  obtain ⟨x8_1, rfl, HA, HK1, Ka, HB⟩ := hrel
  cases gk with
  | zero => exact absurd HA.out (by simp [impl_HeapOk.l0])
  | succ k1 =>
   have H := HA.out; clear HA; simp only [impl_HeapOk.l0] at H
   by_cases c4 : x8_1 < (l0_0.length : Int)
   ·rw [if_pos c4] at H
    have c4b0 : decide (x8_1 < (l0_0.length : Int)) = true := decide_eq_true c4; clear c4
    by_cases c5 : 0 ≤ x8_1
    ·rw [if_pos c5] at H
     have c5b0 : decide (0 ≤ x8_1) = true := decide_eq_true c5; clear c5
     by_cases c6 : x8_1 < (l0_0.length : Int)
     ·rw [if_pos c6] at H
      have c6b0:decide (x8_1 < (l0_0.length:Int))=true:=decide_eq_true c6;clear c6;obtain ⟨Jc,A70,H⟩:=bs_.mp H;(try dsimp only at H);have A7:=D A70;clear A70
      by_cases c8 : Jc = true
      ·subst c8
       rw [if_pos rfl] at H; obtain ⟨Xa, A90, H⟩ := bs_.mp H; (try dsimp only at H); have A9 := D A90; clear A90
       by_cases c10 : Xa = x8_1
       ·rw [if_pos c10] at H
        have c10b0 : (Xa == x8_1) = true := beq_iff_eq.mpr c10; have c10b1 : (Xa != x8_1) = false := bne_eq_false_iff_eq.mpr c10; clear c10
        by_cases c11 : x8_1 > 0
        ·rw [if_pos c11] at H
         have c11b0 : decide (0 < x8_1) = true := decide_eq_true c11; clear c11; obtain ⟨ji12, hji12⟩ : ∃ j_ : Int, (wrap64 (Int.tdiv (wrap64 (x8_1 - 1)) 2)) = j_ := ⟨_, rfl⟩
         replace H:(if 0≤(ji12) then (if (ji12) < (l0_0.length:Int) then ((impl_Ahead.f ((rd_T32 l0_0 x8_1).f0) ((rd_T32 l0_0 x8_1).f1) ((rd_T32 l0_0 (ji12)).f0) ((rd_T32 l0_0 (ji12)).f1)).bind fun Kb=>(if Kb=true then (some false) else (impl_HeapOk.l0 k1 l0_0 (l0_0.length:Int) (wrap64 (x8_1 + 1)) l0_0))) else (none)) else (none))=some r:=by first|(rw [hji12] at H;exact H)|(simp only [hji12] at H ⊢;exact H)
         (try rw [hji12] at A7); (try rw [hji12] at A9); have hji12w : (IntKind.i64.wrap (Int.tdiv (wrap64 (x8_1 - 1)) 2)) = ji12 := (i64_w _).trans hji12
         by_cases c13 : 0 ≤ (ji12)
         ·rw [if_pos c13] at H
          have c13b0 : decide (0 ≤ (ji12)) = true := decide_eq_true c13; clear c13
          by_cases c14 : (ji12) < (l0_0.length : Int)
          ·rw [if_pos c14] at H
           have c14b0:decide ((ji12) < (l0_0.length:Int))=true:=decide_eq_true c14;clear c14;obtain ⟨Kb,A150,H⟩:=bs_.mp H;(try dsimp only at H);have A15:=D A150;clear A150;have HU16:=D H;clear H;have p279:0≤(x8_1:Int):=od_ Z22;have q279:x8_1 < (l0_0.length:Int):=od_ Z22;obtain ⟨ad279,e279,hx279_0,hx279_1⟩:=at_T32 HR0_0.out x8_1 p279 q279;cases e279;replace hx279_0:=rc_ HB.out hx279_0;replace hx279_1:=rc_ HB.out hx279_1;replace p279:=eq_true p279;replace q279:=eq_true q279
           try go_wp2_with (first|((with_reducible refine gate_dst (N:=4) rfl ?_);refine bx_ (N:=4) (cs:=#[I L 0,I L 0]) (t:=32) ?_;intro Ma hg w17 hbox hb;have n_:=an_ (blk_below (pk_ Ka.out) hb)<|an_ (below_step (pB_ HB.out) hb)<|an_ (hbox)<|an_ (bg_ hg (pB_ HB.out):w.heap.size≤Ma)<|an_ (bg_ hg (pB_ HB.out):w.heap.size≤Ma)<|an_ (nl_ hg (pk_ Ka.out):Oa≠Ma)<|D (by rw [hg];exact Nat.ne_of_gt (blk_lt (pk_ Ka.out)):Ma≠Oa);clear Ka HB;obtain ⟨Ka,HB,Ja,Mb,Ob,Ua,Jb⟩:=n_;clear hb hbox hg;(try have:=Jb.out);(try have:=Ua.out);have Oc:=cells2 Ja.out))
           obtain ⟨w20,hq_⟩:∃ W_,W_=((w17.setCell ⟨Ma,0,none⟩ (I L ((rd_T32 l0_0 x8_1).f0))).setCell ⟨Ma,1,none⟩ (I L ((rd_T32 l0_0 x8_1).f1))):=⟨_,rfl⟩;have n0_:Aside0 (w20.heap[Oa]?=some (.cells #[Y (some ad279) l0_0.length c0_0] 26 (0,0))):=⟨by rw [hq_];exact pP_ Ka.out⟩;have n1_:Aside0 (w20.heap[Ma]?=some (.cells #[I L ((rd_T32 l0_0 x8_1).f0),I L ((rd_T32 l0_0 x8_1).f1)] 32 (0,0))):=⟨by rw [hq_];exact pP_ Ja.out⟩;have n2_:Aside0 (Below w.heap.size w w20):=⟨by rw [hq_];exact pB_ HB.out⟩;(try clear Ka);(try clear Ja);(try clear HB);(try rw [←hq_]);clear hq_;have Ka:=n0_;have Ja:=n1_;have HB:=n2_;clear n0_ n1_ n2_
           have n_ := an_ (blk_drew Ka.out) <| an_ (blk_drew Ja.out) <| D (below_drew1 HB.out)
           clear Ka Ja HB;obtain ⟨Ka,Ja,HB⟩:=n_;have p283:0≤((ji12):Int):=od_ Z22;have q283:(ji12) < (l0_0.length:Int):=od_ Z22;obtain ⟨ad283,e283,hx283_0,hx283_1⟩:=at_T32 HR0_0.out (ji12) p283 q283;have hw283_1:=hx283_1;have hw283_0:=hx283_0;obtain rfl:ad279=ad283:=(by injection e283);replace hx283_0:=rc_ HB.out hx283_0;replace hx283_1:=rc_ HB.out hx283_1;replace p283:=eq_true p283;replace q283:=eq_true q283;refine start_ (n:=26) (S:=fun w'=>w'.cell? ⟨Ma,0,none⟩=some (I L ((rd_T32 l0_0 x8_1).f0))∧w'.cell? ⟨Ma,1,none⟩=some (I L ((rd_T32 l0_0 x8_1).f1))∧w'.cell? ⟨Oa,0,none⟩=some (Y (some ad279) l0_0.length c0_0)∧w'.cell? (ad279.add (((ji12)).toNat * 2))=some (I L ((rd_T32 l0_0 (ji12)).f0))∧w'.cell? ⟨(ad279.add (((ji12)).toNat * 2)).block,(ad279.add (((ji12)).toNat * 2)).off + 1,none⟩=some (I L ((rd_T32 l0_0 (ji12)).f1))) (ds:=[]) (bz 26 0) (by kernel_rfl) rfl (by kernel_rfl) (bk2_ Ja.out ⟨bc_ Ka.out 0,(rc_ HB.out hw283_0:),(rc_ HB.out hw283_1:)⟩) (fun hHeld=>?_);refine with_tabW impl_HeapOk.tab4 impl_HeapOk.bits4 (fun HT_ HW_=>?_);generalize w20.drew=w21 at Ka Ja HB hx283_0 hx283_1 hHeld ⊢;refine tb_ 0 rfl rfl hHeld Z20 ?_;refine oa_ 1 14 26 3 HT_ (fun K hK=>?_);refine goes_ Try.func27 (by kernel_rfl) rfl #[.agg #[I L ((rd_T32 l0_0 x8_1).f0),I L ((rd_T32 l0_0 x8_1).f1)]] (by rfl) rfl rfl Z9 ?_;with_reducible refine (impl_ItemOk.calls ((rd_T32 l0_0 x8_1).f0) ((rd_T32 l0_0 x8_1).f1) true _ A7.out).mono ?_
           rintro e w22 ⟨rfl, hb⟩; refine ⟨_, rfl, ?_⟩
           have n_ := an_ (blk_below (pk_ Ka.out) hb) <| an_ (blk_below (pk_ Ja.out) hb) <| D (below_step (pB_ HB.out) hb)
           clear Ka Ja HB;obtain ⟨Ka,Ja,HB⟩:=n_;refine hK.out _ _ (bk2_ Ja.out ⟨bc_ Ka.out 0,(rc_ HB.out hw283_0:),(rc_ HB.out hw283_1:)⟩) (fun hHeld=>?_);clear hK K;refine nx_ (N:=some 14) ?_;refine pb_ 2 ?_;refine pb_ 3 ?_;refine pb_ 5 ?_;refine pb_ 8 ?_;refine tb_ 4 rfl rfl hHeld Z20 ?_;refine tb_ 6 rfl rfl hHeld Z20 ?_;refine oa_ 7 20 26 511 HT_ (fun K hK=>?_);refine goes_ Try.func28 (by kernel_rfl) rfl #[.agg #[Y (some ad279) l0_0.length c0_0],I L ((rd_T32 l0_0 x8_1).f1)] (by rfl) rfl rfl Z9 ?_;with_reducible refine (impl_Heap_place.calls k1 _ _ l0_0 ((rd_T32 l0_0 x8_1).f1) Xa _ ?side1 ?side2 A9.out).mono ?_
           (case side1 => exact pC_ (Kd.C_below HR0_0.out HB.out)); (case side2 => exact HC0_0.out); rintro e w23 ⟨rfl, hb⟩; refine ⟨_, rfl, ?_⟩
           have n_ := an_ (blk_below (pk_ Ka.out) hb) <| an_ (blk_below (pk_ Ja.out) hb) <| D (below_step (pB_ HB.out) hb)
           clear Ka Ja HB;obtain ⟨Ka,Ja,HB⟩:=n_;refine hK.out _ _ (bk2_ Ja.out ⟨bc_ Ka.out 0,(rc_ HB.out hw283_0:),(rc_ HB.out hw283_1:)⟩) (fun hHeld=>?_);clear hK K;refine nx_ (N:=some 20) ?_;refine pb_ 9 ?_;refine pb_ 10 ?_;refine pb_ 11 ?_;refine pb_ 12 ?_;refine pb_ 13 ?_;refine pb_ 14 ?_;refine pb_ 16 ?_;refine pb_ 18 ?_;refine pb_ 19 ?_;refine pb_ 20 ?_;refine tb_ 15 rfl rfl hHeld Z20 ?_;refine tb_ 17 rfl rfl hHeld Z20 ?_;refine pb_ 21 ?_;refine tb_ 22 rfl rfl hHeld Z20 ?_;refine oa_ 23 36 26 16777215 HT_ (fun K hK=>?_);refine goes_ Try.func20 (by kernel_rfl) rfl #[.agg #[I L ((rd_T32 l0_0 x8_1).f0),I L ((rd_T32 l0_0 x8_1).f1)],.agg #[I L ((rd_T32 l0_0 (ji12)).f0),I L ((rd_T32 l0_0 (ji12)).f1)]] (by rfl) rfl rfl (by (try simp only [List.map_toArray,List.map_cons,List.map_nil]);first|done|(simp only [hji12];rfl)|rfl|(simp only [List.length_drop,List.length_take];rfl)) ?_;with_reducible refine (impl_Ahead.calls ((rd_T32 l0_0 x8_1).f0) ((rd_T32 l0_0 x8_1).f1) ((rd_T32 l0_0 (ji12)).f0) ((rd_T32 l0_0 (ji12)).f1) Kb _ A15.out).mono ?_
           rintro e w24 ⟨rfl, hb⟩; refine ⟨_, rfl, ?_⟩
           have n_ := an_ (blk_below (pk_ Ka.out) hb) <| an_ (blk_below (pk_ Ja.out) hb) <| D (below_step (pB_ HB.out) hb)
           clear Ka Ja HB;obtain ⟨Ka,Ja,HB⟩:=n_;refine hK.out _ _ (bk2_ Ja.out ⟨bc_ Ka.out 0,(rc_ HB.out hw283_0:),(rc_ HB.out hw283_1:)⟩) (fun hHeld=>?_);clear hK K;refine nx_ (N:=some 36) ?_;refine pb_ 24 ?_;refine pb_ 25 ?_;refine done_ (done_of HT_.out (by kernel_rfl)) ?_
           go_upto_if 38 with (fail)
           have H := HU16.out; clear HU16
           by_cases c25 : Kb = true
           ·subst c25
            rw [if_pos rfl] at H; obtain rfl := Option.some.inj H
            go_wp2
            go_ret;exact ⟨by first|rfl|(simp [errW_none,errW_some] <;> rfl)|(simp only [← hji12];first|rfl|(simp [errW_none,errW_some] <;> rfl))|(simp [*,errW_none,errW_some] <;> rfl),pB_ HB.out⟩
           ·replace c25 := Bool.eq_false_iff.mpr c25
            subst c25; rw [if_neg (show ¬ (false = true) by decide)] at H; have H' := D H; clear H
            go_wp2
            go_roundg k1
            case measure => have := HK1.out; omega
            case rel => exact ⟨(wrap64 (x8_1 + 1)), Z23, H', ⟨by have := HK1.out; omega⟩, ⟨pk_ Ka.out⟩, ⟨pB_ HB.out⟩⟩
          ·rw [if_neg c14] at H
           exact absurd H (by simp)
         ·rw [if_neg c13] at H
          exact absurd H (by simp)
        ·rw [if_neg c11] at H
         have c11b0:decide (0 < x8_1)=false:=decide_eq_false c11;clear c11;have H':=D H;clear H;have p279:0≤(x8_1:Int):=od_ Z22;have q279:x8_1 < (l0_0.length:Int):=od_ Z22;obtain ⟨ad279,e279,hx279_0,hx279_1⟩:=at_T32 HR0_0.out x8_1 p279 q279;cases e279;replace hx279_0:=rc_ HB.out hx279_0;replace hx279_1:=rc_ HB.out hx279_1;replace p279:=eq_true p279;replace q279:=eq_true q279
         try go_wp2_with (first|((with_reducible refine gate_dst (N:=4) rfl ?_);refine bx_ (N:=4) (cs:=#[I L 0,I L 0]) (t:=32) ?_;intro Ma hg w26 hbox hb;have n_:=an_ (blk_below (pk_ Ka.out) hb)<|an_ (below_step (pB_ HB.out) hb)<|an_ (hbox)<|an_ (bg_ hg (pB_ HB.out):w.heap.size≤Ma)<|an_ (bg_ hg (pB_ HB.out):w.heap.size≤Ma)<|an_ (nl_ hg (pk_ Ka.out):Oa≠Ma)<|D (by rw [hg];exact Nat.ne_of_gt (blk_lt (pk_ Ka.out)):Ma≠Oa);clear Ka HB;obtain ⟨Ka,HB,Ja,Mb,Ob,Ua,Jb⟩:=n_;clear hb hbox hg;(try have:=Jb.out);(try have:=Ua.out);have Md:=cells2 Ja.out))
         obtain ⟨w29,hq_⟩:∃ W_,W_=((w26.setCell ⟨Ma,0,none⟩ (I L ((rd_T32 l0_0 x8_1).f0))).setCell ⟨Ma,1,none⟩ (I L ((rd_T32 l0_0 x8_1).f1))):=⟨_,rfl⟩;have n0_:Aside0 (w29.heap[Oa]?=some (.cells #[Y (some ad279) l0_0.length c0_0] 26 (0,0))):=⟨by rw [hq_];exact pP_ Ka.out⟩;have n1_:Aside0 (w29.heap[Ma]?=some (.cells #[I L ((rd_T32 l0_0 x8_1).f0),I L ((rd_T32 l0_0 x8_1).f1)] 32 (0,0))):=⟨by rw [hq_];exact pP_ Ja.out⟩;have n2_:Aside0 (Below w.heap.size w w29):=⟨by rw [hq_];exact pB_ HB.out⟩;(try clear Ka);(try clear Ja);(try clear HB);(try rw [←hq_]);clear hq_;have Ka:=n0_;have Ja:=n1_;have HB:=n2_;clear n0_ n1_ n2_
         have n_ := an_ (blk_drew Ka.out) <| an_ (blk_drew Ja.out) <| D (below_drew1 HB.out)
         clear Ka Ja HB;obtain ⟨Ka,Ja,HB⟩:=n_;refine start_ (n:=26) (S:=fun w'=>w'.cell? ⟨Ma,0,none⟩=some (I L ((rd_T32 l0_0 x8_1).f0))∧w'.cell? ⟨Ma,1,none⟩=some (I L ((rd_T32 l0_0 x8_1).f1))∧w'.cell? ⟨Oa,0,none⟩=some (Y (some ad279) l0_0.length c0_0)) (ds:=[]) (bz 26 0) (by kernel_rfl) rfl (by kernel_rfl) (bk2_ Ja.out (bc_ Ka.out 0)) (fun hHeld=>?_);refine with_tabW impl_HeapOk.tab4 impl_HeapOk.bits4 (fun HT_ HW_=>?_);generalize w29.drew=w30 at Ka Ja HB hHeld ⊢;refine tb_ 0 rfl rfl hHeld Z21 ?_;refine oa_ 1 14 26 3 HT_ (fun K hK=>?_);refine goes_ Try.func27 (by kernel_rfl) rfl #[.agg #[I L ((rd_T32 l0_0 x8_1).f0),I L ((rd_T32 l0_0 x8_1).f1)]] (by rfl) rfl rfl Z9 ?_;with_reducible refine (impl_ItemOk.calls ((rd_T32 l0_0 x8_1).f0) ((rd_T32 l0_0 x8_1).f1) true _ A7.out).mono ?_
         rintro e w31 ⟨rfl, hb⟩; refine ⟨_, rfl, ?_⟩
         have n_ := an_ (blk_below (pk_ Ka.out) hb) <| an_ (blk_below (pk_ Ja.out) hb) <| D (below_step (pB_ HB.out) hb)
         clear Ka Ja HB;obtain ⟨Ka,Ja,HB⟩:=n_;refine hK.out _ _ (bk2_ Ja.out (bc_ Ka.out 0)) (fun hHeld=>?_);clear hK K;refine nx_ (N:=some 14) ?_;refine pb_ 2 ?_;refine pb_ 3 ?_;refine pb_ 5 ?_;refine pb_ 8 ?_;refine tb_ 4 rfl rfl hHeld Z21 ?_;refine tb_ 6 rfl rfl hHeld Z21 ?_;refine oa_ 7 20 26 511 HT_ (fun K hK=>?_);refine goes_ Try.func28 (by kernel_rfl) rfl #[.agg #[Y (some ad279) l0_0.length c0_0],I L ((rd_T32 l0_0 x8_1).f1)] (by rfl) rfl rfl Z9 ?_;with_reducible refine (impl_Heap_place.calls k1 _ _ l0_0 ((rd_T32 l0_0 x8_1).f1) Xa _ ?side1 ?side2 A9.out).mono ?_
         (case side1 => exact pC_ (Kd.C_below HR0_0.out HB.out)); (case side2 => exact HC0_0.out); rintro e w32 ⟨rfl, hb⟩; refine ⟨_, rfl, ?_⟩
         have n_ := an_ (blk_below (pk_ Ka.out) hb) <| an_ (blk_below (pk_ Ja.out) hb) <| D (below_step (pB_ HB.out) hb)
         clear Ka Ja HB;obtain ⟨Ka,Ja,HB⟩:=n_;refine hK.out _ _ (bk2_ Ja.out (bc_ Ka.out 0)) (fun hHeld=>?_);clear hK K;refine nx_ (N:=some 20) ?_;refine pb_ 9 ?_;refine pb_ 10 ?_;refine pb_ 11 ?_;refine pb_ 12 ?_;refine pb_ 13 ?_;refine pb_ 14 ?_;refine ob_ 15 ?_;refine ob_ 16 ?_;refine ob_ 17 ?_;refine ob_ 18 ?_;refine ob_ 19 ?_;refine ob_ 20 ?_;refine ob_ 21 ?_;refine ob_ 22 ?_;refine ob_ 23 ?_;refine pb_ 24 ?_;refine pb_ 25 ?_;refine done_ (done_of HT_.out (by kernel_rfl)) ?_
         try go_wp2
         go_roundg k1
         case measure => have := HK1.out; omega
         case rel => exact ⟨(wrap64 (x8_1 + 1)), Z23, H', ⟨by have := HK1.out; omega⟩, ⟨pk_ Ka.out⟩, ⟨pB_ HB.out⟩⟩
       ·rw [if_neg c10] at H
        have c10b0:(Xa == x8_1)=false:=beq_eq_false_iff_ne.mpr c10;have c10b1:(Xa != x8_1)=true:=bne_iff_ne.mpr c10;obtain rfl:=Option.some.inj H;have p279:0≤(x8_1:Int):=od_ Z22;have q279:x8_1 < (l0_0.length:Int):=od_ Z22;obtain ⟨ad279,e279,hx279_0,hx279_1⟩:=at_T32 HR0_0.out x8_1 p279 q279;cases e279;replace hx279_0:=rc_ HB.out hx279_0;replace hx279_1:=rc_ HB.out hx279_1;replace p279:=eq_true p279;replace q279:=eq_true q279
        try go_wp2_with (first|((with_reducible refine gate_dst (N:=4) rfl ?_);refine bx_ (N:=4) (cs:=#[I L 0,I L 0]) (t:=32) ?_;intro Ma hg w33 hbox hb;have n_:=an_ (blk_below (pk_ Ka.out) hb)<|an_ (below_step (pB_ HB.out) hb)<|an_ (hbox)<|an_ (bg_ hg (pB_ HB.out):w.heap.size≤Ma)<|an_ (bg_ hg (pB_ HB.out):w.heap.size≤Ma)<|an_ (nl_ hg (pk_ Ka.out):Oa≠Ma)<|D (by rw [hg];exact Nat.ne_of_gt (blk_lt (pk_ Ka.out)):Ma≠Oa);clear Ka HB;obtain ⟨Ka,HB,Ja,Mb,Ob,Ua,Jb⟩:=n_;clear hb hbox hg;(try have:=Jb.out);(try have:=Ua.out);have Je:=cells2 Ja.out))
        obtain ⟨w36,hq_⟩:∃ W_,W_=((w33.setCell ⟨Ma,0,none⟩ (I L ((rd_T32 l0_0 x8_1).f0))).setCell ⟨Ma,1,none⟩ (I L ((rd_T32 l0_0 x8_1).f1))):=⟨_,rfl⟩;have n0_:Aside0 (w36.heap[Oa]?=some (.cells #[Y (some ad279) l0_0.length c0_0] 26 (0,0))):=⟨by rw [hq_];exact pP_ Ka.out⟩;have n1_:Aside0 (w36.heap[Ma]?=some (.cells #[I L ((rd_T32 l0_0 x8_1).f0),I L ((rd_T32 l0_0 x8_1).f1)] 32 (0,0))):=⟨by rw [hq_];exact pP_ Ja.out⟩;have n2_:Aside0 (Below w.heap.size w w36):=⟨by rw [hq_];exact pB_ HB.out⟩;(try clear Ka);(try clear Ja);(try clear HB);(try rw [←hq_]);clear hq_;have Ka:=n0_;have Ja:=n1_;have HB:=n2_;clear n0_ n1_ n2_
        have n_ := an_ (blk_drew Ka.out) <| an_ (blk_drew Ja.out) <| D (below_drew1 HB.out)
        clear Ka Ja HB;obtain ⟨Ka,Ja,HB⟩:=n_;refine start_ (n:=26) (S:=fun w'=>w'.cell? ⟨Ma,0,none⟩=some (I L ((rd_T32 l0_0 x8_1).f0))∧w'.cell? ⟨Ma,1,none⟩=some (I L ((rd_T32 l0_0 x8_1).f1))∧w'.cell? ⟨Oa,0,none⟩=some (Y (some ad279) l0_0.length c0_0)) (ds:=[]) (bz 26 0) (by kernel_rfl) rfl (by kernel_rfl) (bk2_ Ja.out (bc_ Ka.out 0)) (fun hHeld=>?_);refine with_tabW impl_HeapOk.tab4 impl_HeapOk.bits4 (fun HT_ HW_=>?_);generalize w36.drew=w37 at Ka Ja HB hHeld ⊢;refine tb_ 0 rfl rfl hHeld Z21 ?_;refine oa_ 1 14 26 3 HT_ (fun K hK=>?_);refine goes_ Try.func27 (by kernel_rfl) rfl #[.agg #[I L ((rd_T32 l0_0 x8_1).f0),I L ((rd_T32 l0_0 x8_1).f1)]] (by rfl) rfl rfl Z9 ?_;with_reducible refine (impl_ItemOk.calls ((rd_T32 l0_0 x8_1).f0) ((rd_T32 l0_0 x8_1).f1) true _ A7.out).mono ?_
        rintro e w38 ⟨rfl, hb⟩; refine ⟨_, rfl, ?_⟩
        have n_ := an_ (blk_below (pk_ Ka.out) hb) <| an_ (blk_below (pk_ Ja.out) hb) <| D (below_step (pB_ HB.out) hb)
        clear Ka Ja HB;obtain ⟨Ka,Ja,HB⟩:=n_;refine hK.out _ _ (bk2_ Ja.out (bc_ Ka.out 0)) (fun hHeld=>?_);clear hK K;refine nx_ (N:=some 14) ?_;refine pb_ 2 ?_;refine pb_ 3 ?_;refine pb_ 5 ?_;refine pb_ 8 ?_;refine tb_ 4 rfl rfl hHeld Z21 ?_;refine tb_ 6 rfl rfl hHeld Z21 ?_;refine oa_ 7 20 26 511 HT_ (fun K hK=>?_);refine goes_ Try.func28 (by kernel_rfl) rfl #[.agg #[Y (some ad279) l0_0.length c0_0],I L ((rd_T32 l0_0 x8_1).f1)] (by rfl) rfl rfl Z9 ?_;with_reducible refine (impl_Heap_place.calls k1 _ _ l0_0 ((rd_T32 l0_0 x8_1).f1) Xa _ ?side1 ?side2 A9.out).mono ?_
        (case side1 => exact pC_ (Kd.C_below HR0_0.out HB.out)); (case side2 => exact HC0_0.out); rintro e w39 ⟨rfl, hb⟩; refine ⟨_, rfl, ?_⟩
        have n_ := an_ (blk_below (pk_ Ka.out) hb) <| an_ (blk_below (pk_ Ja.out) hb) <| D (below_step (pB_ HB.out) hb)
        clear Ka Ja HB;obtain ⟨Ka,Ja,HB⟩:=n_;refine hK.out _ _ (bk2_ Ja.out (bc_ Ka.out 0)) (fun hHeld=>?_);clear hK K;refine nx_ (N:=some 20) ?_;refine pb_ 9 ?_;refine pb_ 10 ?_;refine pb_ 11 ?_;refine ob_ 12 ?_;refine ob_ 13 ?_;refine ob_ 14 ?_;refine ob_ 15 ?_;refine ob_ 16 ?_;refine ob_ 17 ?_;refine ob_ 18 ?_;refine ob_ 19 ?_;refine ob_ 20 ?_;refine ob_ 21 ?_;refine ob_ 22 ?_;refine ob_ 23 ?_;refine ob_ 24 ?_;refine pb_ 25 ?_;refine done_ (done_of HT_.out (by kernel_rfl)) ?_
        try go_wp2
        go_ret; exact ⟨er_, pB_ HB.out⟩
      ·replace c8 := Bool.eq_false_iff.mpr c8
       subst c8;rw [if_neg (show ¬ (false=true) by decide)] at H;obtain rfl:=Option.some.inj H;have p279:0≤(x8_1:Int):=od_ Z22;have q279:x8_1 < (l0_0.length:Int):=od_ Z22;obtain ⟨ad279,e279,hx279_0,hx279_1⟩:=at_T32 HR0_0.out x8_1 p279 q279;cases e279;replace hx279_0:=rc_ HB.out hx279_0;replace hx279_1:=rc_ HB.out hx279_1;replace p279:=eq_true p279;replace q279:=eq_true q279
       try go_wp2_with (first|((with_reducible refine gate_dst (N:=4) rfl ?_);refine bx_ (N:=4) (cs:=#[I L 0,I L 0]) (t:=32) ?_;intro Ma hg w40 hbox hb;have n_:=an_ (blk_below (pk_ Ka.out) hb)<|an_ (below_step (pB_ HB.out) hb)<|an_ (hbox)<|an_ (bg_ hg (pB_ HB.out):w.heap.size≤Ma)<|an_ (bg_ hg (pB_ HB.out):w.heap.size≤Ma)<|an_ (nl_ hg (pk_ Ka.out):Oa≠Ma)<|D (by rw [hg];exact Nat.ne_of_gt (blk_lt (pk_ Ka.out)):Ma≠Oa);clear Ka HB;obtain ⟨Ka,HB,Ja,Mb,Ob,Ua,Jb⟩:=n_;clear hb hbox hg;(try have:=Jb.out);(try have:=Ua.out);have Ue:=cells2 Ja.out))
       obtain ⟨w43,hq_⟩:∃ W_,W_=((w40.setCell ⟨Ma,0,none⟩ (I L ((rd_T32 l0_0 x8_1).f0))).setCell ⟨Ma,1,none⟩ (I L ((rd_T32 l0_0 x8_1).f1))):=⟨_,rfl⟩;have n0_:Aside0 (w43.heap[Oa]?=some (.cells #[Y (some ad279) l0_0.length c0_0] 26 (0,0))):=⟨by rw [hq_];exact pP_ Ka.out⟩;have n1_:Aside0 (w43.heap[Ma]?=some (.cells #[I L ((rd_T32 l0_0 x8_1).f0),I L ((rd_T32 l0_0 x8_1).f1)] 32 (0,0))):=⟨by rw [hq_];exact pP_ Ja.out⟩;have n2_:Aside0 (Below w.heap.size w w43):=⟨by rw [hq_];exact pB_ HB.out⟩;(try clear Ka);(try clear Ja);(try clear HB);(try rw [←hq_]);clear hq_;have Ka:=n0_;have Ja:=n1_;have HB:=n2_;clear n0_ n1_ n2_
       have n_ := an_ (blk_drew Ka.out) <| an_ (blk_drew Ja.out) <| D (below_drew1 HB.out)
       clear Ka Ja HB;obtain ⟨Ka,Ja,HB⟩:=n_;refine start_ (n:=26) (S:=fun w'=>w'.cell? ⟨Ma,0,none⟩=some (I L ((rd_T32 l0_0 x8_1).f0))∧w'.cell? ⟨Ma,1,none⟩=some (I L ((rd_T32 l0_0 x8_1).f1))) (ds:=[]) (bz 26 0) (by kernel_rfl) rfl (by kernel_rfl) (be2_ Ja.out) (fun hHeld=>?_);refine with_tabW impl_HeapOk.tab4 impl_HeapOk.bits4 (fun HT_ HW_=>?_);generalize w43.drew=w44 at Ka Ja HB hHeld ⊢;refine ta_ 0 13 26 1 HT_ HW_ rfl rfl hHeld (by rintro w' ⟨s0,s1⟩;go_simp;with_reducible rfl) ?_;refine oa_ 1 14 26 3 HT_ (fun K hK=>?_);refine goes_ Try.func27 (by kernel_rfl) rfl #[.agg #[I L ((rd_T32 l0_0 x8_1).f0),I L ((rd_T32 l0_0 x8_1).f1)]] (by rfl) rfl rfl Z9 ?_;with_reducible refine (impl_ItemOk.calls ((rd_T32 l0_0 x8_1).f0) ((rd_T32 l0_0 x8_1).f1) false _ A7.out).mono ?_
       rintro e w45 ⟨rfl, hb⟩; refine ⟨_, rfl, ?_⟩
       have n_ := an_ (blk_below (pk_ Ka.out) hb) <| an_ (blk_below (pk_ Ja.out) hb) <| D (below_step (pB_ HB.out) hb)
       clear Ka Ja HB;obtain ⟨Ka,Ja,HB⟩:=n_;refine hK.out _ _ (be2_ Ja.out) (fun hHeld=>?_);clear hK K;refine nx_ (N:=some 14) ?_;refine pb_ 2 ?_;refine pb_ 3 ?_;refine ob_ 4 ?_;refine ob_ 5 ?_;refine ob_ 6 ?_;refine ob_ 7 ?_;refine ob_ 8 ?_;refine ob_ 9 ?_;refine pb_ 10 ?_;refine pb_ 11 ?_;refine ob_ 12 ?_;refine ob_ 13 ?_;refine ob_ 14 ?_;refine ob_ 15 ?_;refine ob_ 16 ?_;refine ob_ 17 ?_;refine ob_ 18 ?_;refine ob_ 19 ?_;refine ob_ 20 ?_;refine ob_ 21 ?_;refine ob_ 22 ?_;refine ob_ 23 ?_;refine ob_ 24 ?_;refine pb_ 25 ?_;refine done_ (done_of HT_.out (by kernel_rfl)) ?_
       try go_wp2
       go_ret; exact ⟨er_, pB_ HB.out⟩
     ·rw [if_neg c6] at H
      exact absurd H (by simp)
    ·rw [if_neg c5] at H
     exact absurd H (by simp)
   ·rw [if_neg c4] at H
    have c4b0 : decide (x8_1 < (l0_0.length : Int)) = false := decide_eq_false c4; clear c4; obtain rfl := Option.some.inj H; obtain ⟨Mf, Of⟩ := cells1 Ka.out
    go_wp2
    go_ret; exact ⟨er_, pB_ HB.out⟩

/-! ### slices_Clone_impl_Item_impl_Item: function 17 -/
def slices_Clone_impl_Item_impl_Item.f (l0 : List (S32)) : Option ((List (S32))) := (some (([] : List (S32)) : List (S32))).bind fun y285 => (if y285.length + l0.length < 8796093022208 then (some (y285 ++ l0)) else (none))
set_option maxHeartbeats 8000000 in
set_option maxRecDepth 100000 in
theorem slices_Clone_impl_Item_impl_Item.calls (A0 : Option Addr) (c0 : Nat) (l0 r : List (S32)) (w : World) (hr0 : Kd.C k32 w A0 l0.length l0) (hc0 : l0.length ≤ c0) (h : slices_Clone_impl_Item_impl_Item.f l0 = some r) :
  Calls Try.prog 17 #[Y A0 l0.length c0] w fun e w' => ∃ v0_ : Value, e = .returned (v0_) ∧ Kd.R k32 32 w' w.heap.size (fun _ => True) v0_ r ∧ Below w.heap.size w w' := by
 have HR0 := D hr0
 have HC0 := D hc0
 clear hr0 hc0
 have HB := D (Below.refl w.heap.size w)
 have H : ((some (([] : List (S32)) : List (S32))).bind fun y285 => (if y285.length + l0.length < 8796093022208 then (some (y285 ++ l0)) else (none))) = some r := h
 clear h
 by_cases hA_ : A0 = none
 ·subst hA_
  have hl_ := List.length_eq_zero_iff.1 (nil_len HR0.out); subst hl_
  have H : some ([] : List (S32)) = some r := by simpa using H
  obtain rfl := Option.some.inj H; go_enter Try.func17, Try.ntmps17
  go_wp2_with (first|((with_reducible refine gate_dst (N:=4) rfl ?_);refine isnil_event ?hg (N:=4) ?hd (t:=24) (u:=24) (e:=32) (x:=.tmp 3) (y:=.const (Y none 0 0)) ?ho (A:=none) (n:=0) (c:=c0) (m:=0) (q:=0) ?hx ?hy Try.underlying24 (b:=true) rfl ?_;(case hd=>rfl);(case hg=>rfl);(case ho=>rfl);(case hx=>rfl);(case hy=>rfl)))
  go_ret;exact ⟨_,er_,by first|exact Kd.R_nil _ _ _ _ _|exact Kd.N_nil _ _ _ _ _|exact Kd.V_nil _ _ _ _ _|exact Kd.Q_nil _ _ _ _ _|exact Kd.S_nil _ _ _ _ _,pB_ HB.out⟩
 ·have hA1_ := none_no hA_
  obtain ⟨y285, hy285⟩ : ∃ y_ : List (S32), y_ = (([] : List (S32))) := ⟨_, rfl⟩
  replace H:(if y285.length + l0.length < 8796093022208 then (some (y285 ++ l0)) else (none))=some r:=by first|(rw [hy285];with_reducible exact H)|(have H2_:=(Option.bind_some _ _).symm.trans H;rw [hy285];with_reducible exact H2_)|(have H2_:=(Option.bind_some _ _).symm.trans H;with_reducible exact H2_)|with_reducible exact H|(rw [hy285];exact H)|exact H
  have Ny285 := D hy285; clear hy285
  by_cases c2 : y285.length + l0.length < 8796093022208
  ·rw [if_pos c2] at H
   have LMc2 := D c2; clear c2; obtain ⟨y288, hy288⟩ : ∃ y_ : List (S32), y_ = (y285 ++ l0) := ⟨_, rfl⟩
   replace H:(some y288)=some r:=by first|(rw [hy288];with_reducible exact H)|(have H2_:=(Option.bind_some _ _).symm.trans H;rw [hy288];with_reducible exact H2_)|(have H2_:=(Option.bind_some _ _).symm.trans H;with_reducible exact H2_)|with_reducible exact H|(rw [hy288];exact H)|exact H
   have Ny288 := D hy288; clear hy288; obtain rfl := Option.some.inj H; go_enter Try.func17, Try.ntmps17
   go_wp2_with (first|((with_reducible refine gate_dst (N:=4) rfl ?_);refine isnil_event ?hg (N:=4) ?hd (t:=24) (u:=24) (e:=32) (x:=.tmp 3) (y:=.const (Y none 0 0)) ?ho (A:=A0) (n:=l0.length) (c:=c0) (m:=0) (q:=0) ?hx ?hy Try.underlying24 (b:=false) hA1_ ?_;(case hd=>rfl);(case hg=>rfl);(case ho=>rfl);(case hx=>rfl);(case hy=>rfl))|((with_reducible refine gate_dst (N:=5) rfl ?_);refine Kd.R_lit k32 _ 32 ?hg (N:=5) ?hd (xs:=([]:List (S32))) (inner:=[]) (ok:=fun _=>True) (okp:=fun _=>True) ?hr ?hp (fun _ hk=>hk) trivial (Below.refl _ _) (Nat.le_refl _) (by simp) ?_;(case hd=>rfl);(case hg=>rfl);(case hr=>first|(go_simp;done)|(go_simp;rfl));(case hp=>exact (Reps.none _ _));intro v286 w3 ho4 hb hg_ hnew_;clear hg_ hnew_;(first|rw [← Ny285.out] at ho4|(simp only [Int.reduceToNat] at ho4;rw [← Ny285.out] at ho4));have n_:=an_ (Kd.R_lower ho4 (below_size (pB_ HB.out)))<|D (below_step (pB_ HB.out) hb);clear HB;obtain ⟨HO287,HB⟩:=n_;clear hb ho4)|((with_reducible refine gate_builtin (b:=.append) (xs:=#[.tmp 5,.tmp 6]) rfl ?_);at_builtin;refine Kd.R_append_rows k32 (w0:=w) w.heap.size rfl (.tmp 5) (.tmp 6) 24 32 (.agg #[(I L 0),(I L 0)]) 16 rfl Try.underlying24 info32 rfl (by decide) (by omega) v286 y285 l0 _ _ _ (fun _=>True) (fun _=>False) rfl rfl ?aO ?aR (fun _ _ h=>h) (fun _ h=>h.elim) ?aF ?aB ?aS ?aL ?_;(case aR=>exact pC_ (Kd.C_below HR0.out HB.out));(case aB=>exact (pB_ HB.out));(case aF=>exact (fun _ _=>trivial));(case aO=>exact (pR_ HO287.out));(case aS=>exact (below_size (pB_ HB.out)));(case aL=>have:=LMc2.out;omega);intro v289 w5 ho hb hg hat;rw [← Ny288.out] at ho;have n_:=an_ (hb)<|D (ho);clear HB HO287;obtain ⟨HB,HO290⟩:=n_;clear ho hb hg hat))
   go_ret;exact ⟨_,er_,by (with_reducible repeat (first|apply Kd.R_alloc|apply Kd.R_drewN|apply Kd.R_drew));exact HO290.out,pB_ HB.out⟩
  ·rw [if_neg c2] at H
   exact absurd H (by simp)

-- function 39 is not called

-- function 50 is not called

-- function 40 is not called

-- function 47 is not called

-- function 48 is not called

-- function 30 is not called

-- function 51 is not called

-- function 52 is not called

-- function 41 is not called

-- function 56 is not called

-- function 54 is not called

-- function 53 is not called

-- function 42 is not called

-- function 43 is not called

-- function 44 is not called

-- function 45 is not called

-- function 46 is not called

-- function 29 is not called

-- function 18: in a text of its own

end Go.Proofs.Ytcindcakncngnaa.PFnHeapSorts
