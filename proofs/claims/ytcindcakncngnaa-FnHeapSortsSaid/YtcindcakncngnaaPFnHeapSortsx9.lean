-- by a program of this session's, over the kit's words
import Derived.Test.YtcindcakncngnaaPZFnHeapSorts
import Derived.Test.YtcindcakncngnaaPFnHeapSortsx0
import Derived.Test.YtcindcakncngnaaPFnHeapSortsx1
import Derived.Test.YtcindcakncngnaaPFnHeapSortsx7
namespace Go.Proofs.Ytcindcakncngnaa.PFnHeapSorts
open Go.RowKit Go.Proofs.YtcindcakncngnaaW.PrintWords Go.Proofs.YtcindcakncngnaaW.PrintLast Go.Proofs.YtcindcakncngnaaW.PrintMore Go.Proofs.YtcindcakncngnaaV Go.Proofs.Ytcindcakncngnaa.ZFnHeapSorts
open Go.Value renaming int → I, slice → Y
open Go.IntKind renaming i64 → L
open Aside0 renaming mk → D
open Option renaming bind_eq_some_iff → bs_
attribute [local go_sem] max2_int min2_int max_two min_two max_three min_three max_four min_four   -- for this text's walks alone
set_option linter.unusedVariables false
set_option linter.unusedSimpArgs false

attribute [local go_sem high] eqA32
/-! ### laws_sameItems: function 9 -/
def laws_sameItems.l0 : Nat → List (S32) → List (S32) → Int → Option (Bool)
 | 0, _, _, _ => none
 | k + 1,x0,x1,x5=>if x5 < (x0.length:Int) then (if 0≤x5 then (if x5 < (x1.length:Int) then (if (!(((rd_T32 x0 x5).f0) == ((rd_T32 x1 x5).f0)) || (!(((rd_T32 x0 x5).f1) == ((rd_T32 x1 x5).f1))))=true then (some false) else (laws_sameItems.l0 k x0 x1 (wrap64 (x5 + 1)))) else (none)) else (none)) else (some true)
def laws_sameItems.f (k : Nat) (l0 l1 : List (S32)) : Option (Bool) := if (l0.length : Int) = (l1.length : Int) then (laws_sameItems.l0 k l0 l1 0) else (some false)
set_option maxHeartbeats 8000000 in
set_option maxRecDepth 100000 in
theorem laws_sameItems.calls (k : Nat) (A0 : Option Addr) (c0 : Nat) (l0 : List (S32)) (A1 : Option Addr) (c1 : Nat) (l1 : List (S32)) (r : Bool) (w : World) (hr0 : Kd.C k32 w A0 l0.length l0) (hc0 : l0.length ≤ c0) (hr1 : Kd.C k32 w A1 l1.length l1) (hc1 : l1.length ≤ c1) (h : laws_sameItems.f k l0 l1 = some r) :
  Calls Try.prog 9 #[Y A0 l0.length c0, Y A1 l1.length c1] w fun e w' => e = .returned (.bool r) ∧ Drawn0 w w' := by
 have hu32 := Try.underlying32
 have HR0 := D hr0
 have HC0 := D hc0
 clear hr0 hc0
 have HR1 := D hr1
 have HC1 := D hc1
 clear hr1 hc1
 have H : (if (l0.length : Int) = (l1.length : Int) then (laws_sameItems.l0 k l0 l1 0) else (some false)) = some r := h
 clear h
 by_cases c3 : (l0.length : Int) = (l1.length : Int)
 ·rw [if_pos c3] at H
  have c3b0 : ((l0.length : Int) == (l1.length : Int)) = true := beq_iff_eq.mpr c3; have c3b1 : ((l0.length : Int) != (l1.length : Int)) = false := bne_eq_false_iff_eq.mpr c3
  have c3b2 : (l0.length == l1.length) = true := by first | simpa using c3 | (simp at c3 ⊢; omega)
  clear c3; have H' := D H; clear H; go_enter Try.func9, Try.ntmps9
  go_wp2
  repeat (go_quiet (fail); try go_wp2)
  go_loopg [5] k (fun kq v5 w' => ∃ (x5_1 : Int), v5 = I L x5_1 ∧ Aside0 (laws_sameItems.l0 kq l0 l1 x5_1 = some r) ∧ Aside0 (kq ≤ k) ∧ Drawn0 w w')
  case atStart => exact ⟨(0), Z23, H', ⟨Nat.le_refl _⟩, by repeat (first | exact Drawn0.refl _ | apply Drawn0.step)⟩
  case round =>
   clear H'
   (try clear c1);(try clear p2);(try clear c3);(try clear c3b0);(try clear c3b1);(try clear c3b2)
   obtain ⟨x5_1, rfl, HA, HK1, ⟨m1, rfl⟩⟩ := hrel
   cases gk with
   | zero => exact absurd HA.out (by simp [laws_sameItems.l0])
   | succ k1 =>
    have H := HA.out; clear HA; simp only [laws_sameItems.l0] at H
    by_cases c4 : x5_1 < (l0.length : Int)
    ·rw [if_pos c4] at H
     have c4b0 : decide (x5_1 < (l0.length : Int)) = true := decide_eq_true c4; clear c4
     by_cases c5 : 0 ≤ x5_1
     ·rw [if_pos c5] at H
      have c5b0 : decide (0 ≤ x5_1) = true := decide_eq_true c5; clear c5
      by_cases c6 : x5_1 < (l1.length : Int)
      ·rw [if_pos c6] at H
       have c6b0:decide (x5_1 < (l1.length:Int))=true:=decide_eq_true c6;clear c6;have HU7:=D H;clear H;have p357:0≤(x5_1:Int):=od_ Z22;have q357:x5_1 < (l0.length:Int):=od_ Z22;obtain ⟨ad357,e357,hx357_0,hx357_1⟩:=at_T32 HR0.out x5_1 p357 q357;cases e357;replace p357:=eq_true p357;replace q357:=eq_true q357;have p358:0≤(x5_1:Int):=od_ Z22;have q358:x5_1 < (l1.length:Int):=od_ Z22;obtain ⟨ad358,e358,hx358_0,hx358_1⟩:=at_T32 HR1.out x5_1 p358 q358;cases e358;replace p358:=eq_true p358;replace q358:=eq_true q358
       go_upto_if 25 with (fail)
       repeat (go_quiet (fail); go_upto_if 25 with (fail))
       have H := HU7.out; clear HU7
       by_cases c8 : (!(((rd_T32 l0 x5_1).f0) == ((rd_T32 l1 x5_1).f0)) || (!(((rd_T32 l0 x5_1).f1) == ((rd_T32 l1 x5_1).f1)))) = true
       ·rw [if_pos c8] at H
        have c8b0:(!(((rd_T32 l0 x5_1).f0) == ((rd_T32 l1 x5_1).f0)) || (!(((rd_T32 l0 x5_1).f1) == ((rd_T32 l1 x5_1).f1))))=true:=c8;clear c8;refine rw_ c8b0 ?_;obtain rfl:=Option.some.inj H
        go_wp2
        repeat (go_quiet (fail); try go_wp2)
        go_ret; exact ⟨by first | rfl | (simp; done) | (simp [*]; done), by repeat (first | exact Drawn0.refl _ | apply Drawn0.step)⟩
       ·rw [if_neg c8] at H
        have c8b0 : (!(((rd_T32 l0 x5_1).f0) == ((rd_T32 l1 x5_1).f0)) || (!(((rd_T32 l0 x5_1).f1) == ((rd_T32 l1 x5_1).f1)))) = false := by simpa using c8
        clear c8;refine rw_ c8b0 ?_;have H':=D H;clear H
        go_wp2
        repeat (go_quiet (fail); try go_wp2)
        go_roundg k1
        case measure => have := HK1.out; omega
        case rel => exact ⟨(wrap64 (x5_1 + 1)), Z23, H', ⟨by have := HK1.out; omega⟩, by repeat (first | exact Drawn0.refl _ | apply Drawn0.step)⟩
      ·rw [if_neg c6] at H
       exact absurd H (by simp)
     ·rw [if_neg c5] at H
      exact absurd H (by simp)
    ·rw [if_neg c4] at H
     have c4b0 : decide (x5_1 < (l0.length : Int)) = false := decide_eq_false c4; clear c4; obtain rfl := Option.some.inj H
     go_wp2
     repeat (go_quiet (fail); try go_wp2)
     go_ret; exact ⟨by first | rfl | (simp; done) | (simp [*]; done), by repeat (first | exact Drawn0.refl _ | apply Drawn0.step)⟩
 ·rw [if_neg c3] at H
  have c3b0 : ((l0.length : Int) == (l1.length : Int)) = false := beq_eq_false_iff_ne.mpr c3; have c3b1 : ((l0.length : Int) != (l1.length : Int)) = true := bne_iff_ne.mpr c3
  have c3b2 : (l0.length == l1.length) = false := by first | simpa using c3 | (simp at c3 ⊢; omega)
  obtain rfl := Option.some.inj H; go_enter Try.func9, Try.ntmps9
  go_wp2
  repeat (go_quiet (fail); try go_wp2)
  go_ret; exact ⟨by first | rfl | (simp; done) | (simp [*]; done), by repeat (first | exact Drawn0.refl _ | apply Drawn0.step)⟩

/-! ### impl_copyHeap: function 21 -/
def impl_copyHeap.f (l0_0 : List (S32)) : Option ((List (S32))) := (slices_Clone_impl_Item_impl_Item.f l0_0).bind fun t361 => (some t361)
set_option maxHeartbeats 8000000 in
set_option maxRecDepth 100000 in
theorem impl_copyHeap.calls (A0_0 : Option Addr) (c0_0 : Nat) (l0_0 r : List (S32)) (w : World) (hr0_0 : Kd.C k32 w A0_0 l0_0.length l0_0) (hc0_0 : l0_0.length ≤ c0_0) (h : impl_copyHeap.f l0_0 = some r) :
  Calls Try.prog 21 #[.agg #[Y A0_0 l0_0.length c0_0]] w fun e w' => ∃ v0_ : Value, e = .returned (.agg #[v0_]) ∧ Kd.R k32 32 w' w.heap.size (fun _ => True) v0_ r ∧ Below w.heap.size w w' := by
 have hu26 := Try.underlying26
 have HR0_0 := D hr0_0
 have HC0_0 := D hc0_0
 clear hr0_0 hc0_0
 have HB := D (Below.refl w.heap.size w)
 have H : ((slices_Clone_impl_Item_impl_Item.f l0_0).bind fun t361 => (some t361)) = some r := h
 clear h
 obtain ⟨t361, A20, H⟩ := bs_.mp H
 (try dsimp only at H)
 have A2 := D A20
 clear A20
 obtain rfl := Option.some.inj H
 go_enter Try.func21, Try.ntmps21
 go_wp2_with (first|((with_reducible refine gate_dst (N:=1) rfl ?_);refine bx_ (N:=1) (cs:=#[Y A0_0 l0_0.length c0_0]) (t:=26) ?_;intro gb359 hg w3 hbox hb;have n_:=an_ (below_step (pB_ HB.out) hb)<|an_ (hbox)<|an_ (bg_ hg (pB_ HB.out):w.heap.size≤gb359)<|D (bg_ hg (pB_ HB.out):w.heap.size≤gb359);clear HB;obtain ⟨HB,BK359,GW359,GE359⟩:=n_;clear hb hbox hg)|((with_reducible refine gate_dst (N:=2) rfl ?_);refine bx_ (N:=2) (cs:=#[Y none 0 0]) (t:=26) ?_;intro gb360 hg w4 hbox hb;have n_:=an_ (blk_below (pk_ BK359.out) hb)<|an_ (below_step (pB_ HB.out) hb)<|an_ (hbox)<|an_ (bg_ hg (pB_ HB.out):w.heap.size≤gb360)<|an_ (bg_ hg (pB_ HB.out):w.heap.size≤gb360)<|an_ (nl_ hg (pk_ BK359.out):gb359≠gb360)<|D (by rw [hg];exact Nat.ne_of_gt (blk_lt (pk_ BK359.out)):gb360≠gb359);clear BK359 HB;obtain ⟨BK359,HB,BK360,GW360,GE360,NB359_360,NB360_359⟩:=n_;clear hb hbox hg;(try have:=NB359_360.out);(try have:=NB360_359.out);have hcz6_0:=cells1 BK359.out)|((with_reducible refine gate_callee (f:=17) rfl ?_);refine goesL_ (some 5) rfl rfl Try.func17 (by kernel_rfl) rfl #[Y A0_0 l0_0.length c0_0] rfl Z9 ?_;(with_reducible refine (slices_Clone_impl_Item_impl_Item.calls _ _ l0_0 t361 _ ?side1 ?side2 A2.out).mono ?_);(case side1=>exact pC_ (Kd.C_below HR0_0.out HB.out));(case side2=>exact HC0_0.out);rintro e w7 ⟨v362,rfl,ho0,hb⟩;refine ⟨_,rfl,?_⟩;have n_:=an_ (Kd.R_lower ho0 (below_size (pB_ HB.out)))<|an_ (blk_below (pk_ BK359.out) hb)<|an_ (blk_below (pk_ BK360.out) hb)<|D (below_step (pB_ HB.out) hb);clear BK359 BK360 HB;obtain ⟨HO363,BK359,BK360,HB⟩:=n_;(try clear hb);(try clear ho0);obtain ⟨Ao8,co8,eo8⟩:=Kd.R_slice HO363.out;subst eo8;have hcz9_0:=cells1 BK360.out))
 refine bodyPost_ret (results_cell_row rfl _ _ gb360 26 #[Y Ao8 t361.length co8] (0,0) _ rfl (by exact pP_ BK360.out) Try.underlying26 rfl (by kernel_rfl)) rfl ?_
 exact ⟨_,er_,by (with_reducible repeat (first|apply Kd.R_alloc|apply Kd.R_drewN|apply Kd.R_drew));exact Kd.R_mono (fr_ (Kd.R_types HO363.out BK360.out (by decide)) 0 (Y Ao8 t361.length co8)) (fun _ hk=>trivial),pB_ HB.out⟩

end Go.Proofs.Ytcindcakncngnaa.PFnHeapSorts
