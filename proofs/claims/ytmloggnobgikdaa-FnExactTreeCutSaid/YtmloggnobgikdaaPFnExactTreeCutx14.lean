-- by a program of this session's, over the kit's words
import Derived.Test.YtmloggnobgikdaaPZFnExactTreeCut
import Derived.Test.YtmloggnobgikdaaPFnExactTreeCutx0
import Derived.Test.YtmloggnobgikdaaPFnExactTreeCutx13
namespace Go.Proofs.Ytmloggnobgikdaa.PFnExactTreeCut
open Go.RowKit Go.Proofs.YtmloggnobgikdaaW.PrintWords Go.Proofs.YtmloggnobgikdaaW.PrintLast Go.Proofs.YtmloggnobgikdaaW.PrintMore Go.Proofs.YtmloggnobgikdaaV Go.Proofs.Ytmloggnobgikdaa.ZFnExactTreeCut
open Go.Value renaming int → I, slice → Y
open Go.IntKind renaming i64 → L
open Aside0 renaming mk → D
open Option renaming bind_eq_some_iff → bs_
attribute [local go_sem] max2_int min2_int max_two min_two max_three min_three max_four min_four   -- for this text's walks alone
set_option linter.unusedVariables false
set_option linter.unusedSimpArgs false

/-! ### laws_eqKidS: function 44 -/
def laws_eqKidS.l0 : Nat → List (S57) → List (S57) → Int → Option (Bool)
 | 0, _, _, _ => none
 | k + 1,x0,x1,x5=>if x5 < (x0.length:Int) then (if 0≤x5 then (if x5 < (x1.length:Int) then ((laws_eqKid.f ((rd_T57 x0 x5).f0) ((rd_T57 x0 x5).f1) ((rd_T57 x0 x5).f2) ((rd_T57 x0 x5).f3.f0) ((rd_T57 x0 x5).f3.f1) ((rd_T57 x0 x5).f3.f2) ((rd_T57 x1 x5).f0) ((rd_T57 x1 x5).f1) ((rd_T57 x1 x5).f2) ((rd_T57 x1 x5).f3.f0) ((rd_T57 x1 x5).f3.f1) ((rd_T57 x1 x5).f3.f2)).bind fun t412=>(if t412=true then (laws_eqKidS.l0 k x0 x1 (wrap64 (x5 + 1))) else (some false))) else (none)) else (none)) else (some true)
def laws_eqKidS.f (k : Nat) (l0 l1 : List (S57)) : Option (Bool) := if (l0.length : Int) = (l1.length : Int) then (laws_eqKidS.l0 k l0 l1 0) else (some false)
def laws_eqKidS.T6 : Bool × List (List Nat × List Nat) := (true, [([], []), ([], []), ([0, 1], [0, 1]), ([2], [2]), ([], []), ([], []), ([4, 5], [4, 5]), ([6], [6]), ([3, 7], [3, 7]), ([8], [8])])
def laws_eqKidS.B6 : List Nat := [0, 0, 3, 7, 0, 0, 48, 112, 255, 511]
theorem laws_eqKidS.tab6 : rtab .any (opsOf Try.f44 6) = laws_eqKidS.T6 := by kernel_rfl
theorem laws_eqKidS.bits6 : waitsOk laws_eqKidS.T6.2 laws_eqKidS.B6 = true := by kernel_rfl
set_option maxHeartbeats 8000000 in
set_option maxRecDepth 100000 in
theorem laws_eqKidS.calls (k : Nat) (A0 : Option Addr) (c0 : Nat) (l0 : List (S57)) (A1 : Option Addr) (c1 : Nat) (l1 : List (S57)) (r : Bool) (w : World) (hr0 : Kd.C k57 w A0 l0.length l0) (hc0 : l0.length ≤ c0) (hr1 : Kd.C k57 w A1 l1.length l1) (hc1 : l1.length ≤ c1) (h : laws_eqKidS.f k l0 l1 = some r) :
  Calls Try.prog 44 #[Y A0 l0.length c0, Y A1 l1.length c1] w fun e w' => e = .returned (.bool r) ∧ Below w.heap.size w w' := by
 have hu57 := Try.underlying57
 have HR0 := D hr0
 have HC0 := D hc0
 clear hr0 hc0
 have HR1 := D hr1
 have HC1 := D hc1
 clear hr1 hc1
 have HB := D (Below.refl w.heap.size w)
 have H : (if (l0.length : Int) = (l1.length : Int) then (laws_eqKidS.l0 k l0 l1 0) else (some false)) = some r := h
 clear h
 by_cases c3 : (l0.length : Int) = (l1.length : Int)
 ·rw [if_pos c3] at H
  have c3b0 : ((l0.length : Int) == (l1.length : Int)) = true := beq_iff_eq.mpr c3; have c3b1 : ((l0.length : Int) != (l1.length : Int)) = false := bne_eq_false_iff_eq.mpr c3
  have c3b2 : (l0.length == l1.length) = true := by first | simpa using c3 | (simp at c3 ⊢; omega)
  clear c3; have H' := D H; clear H; go_enter Try.func44, Try.ntmps44
  go_wp2
  go_loopg [5] k (fun kq v5 w' => ∃ (x5_1 : Int), v5 = I L x5_1 ∧ Aside0 (laws_eqKidS.l0 kq l0 l1 x5_1 = some r) ∧ Aside0 (kq ≤ k) ∧ Aside0 (Below w.heap.size w w'))
  case atStart => exact ⟨(0), Z44, H', ⟨Nat.le_refl _⟩, ⟨pB_ HB.out⟩⟩
  case round =>
   clear H'
   (try clear c1);(try clear p2);(try clear c3);(try clear c3b0);(try clear c3b1);(try clear c3b2)
   obtain ⟨x5_1, rfl, HA, HK1, HB⟩ := hrel
   cases gk with
   | zero => exact absurd HA.out (by simp [laws_eqKidS.l0])
   | succ k1 =>
    have H := HA.out; clear HA; simp only [laws_eqKidS.l0] at H
    by_cases c4 : x5_1 < (l0.length : Int)
    ·rw [if_pos c4] at H
     have c4b0 : decide (x5_1 < (l0.length : Int)) = true := decide_eq_true c4; clear c4
     by_cases c5 : 0 ≤ x5_1
     ·rw [if_pos c5] at H
      have c5b0 : decide (0 ≤ x5_1) = true := decide_eq_true c5; clear c5
      by_cases c6 : x5_1 < (l1.length : Int)
      ·rw [if_pos c6] at H
       have c6b0:decide (x5_1 < (l1.length:Int))=true:=decide_eq_true c6;clear c6;obtain ⟨t412,A70,H⟩:=bs_.mp H;(try dsimp only at H);have A7:=D A70;clear A70;have HU8:=D H;clear H
       try go_wp2
       have n0_:=D (below_drew1 HB.out);clear HB;have HB:=n0_;clear n0_;have p410:0≤(x5_1:Int):=od_ Z43;have q410:x5_1 < (l0.length:Int):=od_ Z43;obtain ⟨ad410,e410,hx410_0,hx410_1,hx410_2,hx410_3,hx410_4,hx410_5⟩:=at_T57 HR0.out x5_1 p410 q410;have hw410_5:=hx410_5;have hw410_4:=hx410_4;have hw410_3:=hx410_3;have hw410_2:=hx410_2;have hw410_1:=hx410_1;have hw410_0:=hx410_0;cases e410;replace hx410_0:=rc_ HB.out hx410_0;replace hx410_1:=rc_ HB.out hx410_1;replace hx410_2:=rc_ HB.out hx410_2;replace hx410_3:=rc_ HB.out hx410_3;replace hx410_4:=rc_ HB.out hx410_4;replace hx410_5:=rc_ HB.out hx410_5;replace p410:=eq_true p410;replace q410:=eq_true q410;have p411:0≤(x5_1:Int):=od_ Z43;have q411:x5_1 < (l1.length:Int):=od_ Z43;obtain ⟨ad411,e411,hx411_0,hx411_1,hx411_2,hx411_3,hx411_4,hx411_5⟩:=at_T57 HR1.out x5_1 p411 q411;have hw411_5:=hx411_5;have hw411_4:=hx411_4;have hw411_3:=hx411_3;have hw411_2:=hx411_2;have hw411_1:=hx411_1;have hw411_0:=hx411_0;cases e411;replace hx411_0:=rc_ HB.out hx411_0;replace hx411_1:=rc_ HB.out hx411_1;replace hx411_2:=rc_ HB.out hx411_2;replace hx411_3:=rc_ HB.out hx411_3;replace hx411_4:=rc_ HB.out hx411_4;replace hx411_5:=rc_ HB.out hx411_5;replace p411:=eq_true p411;replace q411:=eq_true q411;refine start_ (n:=10) (S:=fun w'=>w'.cell? (ad410.add ((x5_1).toNat * 6))=some (I L ((rd_T57 l0 x5_1).f0))∧w'.cell? ⟨(ad410.add ((x5_1).toNat * 6)).block,(ad410.add ((x5_1).toNat * 6)).off + 1,none⟩=some (I L ((rd_T57 l0 x5_1).f1))∧w'.cell? ⟨(ad410.add ((x5_1).toNat * 6)).block,(ad410.add ((x5_1).toNat * 6)).off + 2,none⟩=some (.bool ((rd_T57 l0 x5_1).f2))∧w'.cell? ⟨(ad410.add ((x5_1).toNat * 6)).block,(ad410.add ((x5_1).toNat * 6)).off + 3,none⟩=some (I L ((rd_T57 l0 x5_1).f3.f0))∧w'.cell? ⟨(ad410.add ((x5_1).toNat * 6)).block,(ad410.add ((x5_1).toNat * 6)).off + 4,none⟩=some (I L ((rd_T57 l0 x5_1).f3.f1))∧w'.cell? ⟨(ad410.add ((x5_1).toNat * 6)).block,(ad410.add ((x5_1).toNat * 6)).off + 5,none⟩=some (I L ((rd_T57 l0 x5_1).f3.f2))∧w'.cell? (ad411.add ((x5_1).toNat * 6))=some (I L ((rd_T57 l1 x5_1).f0))∧w'.cell? ⟨(ad411.add ((x5_1).toNat * 6)).block,(ad411.add ((x5_1).toNat * 6)).off + 1,none⟩=some (I L ((rd_T57 l1 x5_1).f1))∧w'.cell? ⟨(ad411.add ((x5_1).toNat * 6)).block,(ad411.add ((x5_1).toNat * 6)).off + 2,none⟩=some (.bool ((rd_T57 l1 x5_1).f2))∧w'.cell? ⟨(ad411.add ((x5_1).toNat * 6)).block,(ad411.add ((x5_1).toNat * 6)).off + 3,none⟩=some (I L ((rd_T57 l1 x5_1).f3.f0))∧w'.cell? ⟨(ad411.add ((x5_1).toNat * 6)).block,(ad411.add ((x5_1).toNat * 6)).off + 4,none⟩=some (I L ((rd_T57 l1 x5_1).f3.f1))∧w'.cell? ⟨(ad411.add ((x5_1).toNat * 6)).block,(ad411.add ((x5_1).toNat * 6)).off + 5,none⟩=some (I L ((rd_T57 l1 x5_1).f3.f2))) (ds:=[]) (bz 10 0) (by kernel_rfl) rfl (by kernel_rfl) (rk6_ HB.out hw410_0 hw410_1 hw410_2 hw410_3 hw410_4 hw410_5 (re6_ HB.out hw411_0 hw411_1 hw411_2 hw411_3 hw411_4 hw411_5)) (fun hHeld=>?_);refine with_tabW laws_eqKidS.tab6 laws_eqKidS.bits6 (fun HT_ HW_=>?_)
       generalize wr.drew=w9 at HB hx410_0 hx410_1 hx410_2 hx410_3 hx410_4 hx410_5 hx411_0 hx411_1 hx411_2 hx411_3 hx411_4 hx411_5 hHeld ⊢;refine pb_ 0 ?_;refine pb_ 1 ?_;refine pb_ 2 ?_;refine pb_ 4 ?_;refine pb_ 5 ?_;refine pb_ 6 ?_;refine tb_ 3 rfl rfl hHeld Z38 ?_;refine tb_ 7 rfl rfl hHeld Z38 ?_;refine oa_ 8 25 10 511 HT_ (fun K hK=>?_);refine goes_ Try.func57 (by kernel_rfl) rfl #[.agg #[I L ((rd_T57 l0 x5_1).f0),I L ((rd_T57 l0 x5_1).f1),.bool ((rd_T57 l0 x5_1).f2),I L ((rd_T57 l0 x5_1).f3.f0),I L ((rd_T57 l0 x5_1).f3.f1),I L ((rd_T57 l0 x5_1).f3.f2)],.agg #[I L ((rd_T57 l1 x5_1).f0),I L ((rd_T57 l1 x5_1).f1),.bool ((rd_T57 l1 x5_1).f2),I L ((rd_T57 l1 x5_1).f3.f0),I L ((rd_T57 l1 x5_1).f3.f1),I L ((rd_T57 l1 x5_1).f3.f2)]] (by rfl) rfl rfl Z12 ?_;with_reducible refine (laws_eqKid.calls ((rd_T57 l0 x5_1).f0) ((rd_T57 l0 x5_1).f1) ((rd_T57 l0 x5_1).f2) ((rd_T57 l0 x5_1).f3.f0) ((rd_T57 l0 x5_1).f3.f1) ((rd_T57 l0 x5_1).f3.f2) ((rd_T57 l1 x5_1).f0) ((rd_T57 l1 x5_1).f1) ((rd_T57 l1 x5_1).f2) ((rd_T57 l1 x5_1).f3.f0) ((rd_T57 l1 x5_1).f3.f1) ((rd_T57 l1 x5_1).f3.f2) t412 _ A7.out).mono ?_
       rintro e w10 ⟨rfl,hb⟩;refine ⟨_,rfl,?_⟩;have n0_:=D (below_step (pB_ HB.out) hb);clear HB;have HB:=n0_;clear n0_;(try clear hb);refine hK.out _ _ (rk6_ HB.out hw410_0 hw410_1 hw410_2 hw410_3 hw410_4 hw410_5 (re6_ HB.out hw411_0 hw411_1 hw411_2 hw411_3 hw411_4 hw411_5)) (fun hHeld=>?_);clear hK K;refine nx_ (N:=some 25) ?_;refine pb_ 9 ?_;refine done_ (done_of HT_.out (by kernel_rfl)) ?_
       go_upto_if 26 with (fail)
       have H := HU8.out; clear HU8
       by_cases c11 : t412 = true
       ·subst c11
        rw [if_pos rfl] at H; have H' := D H; clear H
        go_wp2
        go_roundg k1
        case measure => have := HK1.out; omega
        case rel => exact ⟨(wrap64 (x5_1 + 1)), Z44, H', ⟨by have := HK1.out; omega⟩, ⟨pB_ HB.out⟩⟩
       ·replace c11 := Bool.eq_false_iff.mpr c11
        subst c11; rw [if_neg (show ¬ (false = true) by decide)] at H; obtain rfl := Option.some.inj H
        go_wp2
        go_ret; exact ⟨er_, pB_ HB.out⟩
      ·rw [if_neg c6] at H
       exact absurd H (by simp)
     ·rw [if_neg c5] at H
      exact absurd H (by simp)
    ·rw [if_neg c4] at H
     have c4b0 : decide (x5_1 < (l0.length : Int)) = false := decide_eq_false c4; clear c4; obtain rfl := Option.some.inj H
     go_wp2
     go_ret; exact ⟨er_, pB_ HB.out⟩
 ·rw [if_neg c3] at H
  have c3b0 : ((l0.length : Int) == (l1.length : Int)) = false := beq_eq_false_iff_ne.mpr c3; have c3b1 : ((l0.length : Int) != (l1.length : Int)) = true := bne_iff_ne.mpr c3
  have c3b2 : (l0.length == l1.length) = false := by first | simpa using c3 | (simp at c3 ⊢; omega)
  obtain rfl := Option.some.inj H; go_enter Try.func44, Try.ntmps44
  go_wp2
  go_ret; exact ⟨er_, pB_ HB.out⟩

/-! ### laws_eqFair: function 24 -/
def laws_eqFair.f (k : Nat) (a0_0 a0_1 a0_2 a0_3 : Int) (l0_4 : List (S57)) (a1_0 a1_1 a1_2 a1_3 : Int) (l1_4 : List (S57)) : Option (Bool) := if a0_0 = a1_0 then ((laws_eqVec.f a0_1 a0_2 a0_3 a1_1 a1_2 a1_3).bind fun t415 => (if t415 = true then ((laws_eqKidS.f k l0_4 l1_4).bind fun t416 => (if t416 = true then (some true) else (some false))) else (some false))) else (some false)
set_option maxHeartbeats 8000000 in
set_option maxRecDepth 100000 in
theorem laws_eqFair.calls (k : Nat) (a0_0 a0_1 a0_2 a0_3 : Int) (A0_4 : Option Addr) (c0_4 : Nat) (l0_4 : List (S57)) (a1_0 a1_1 a1_2 a1_3 : Int) (A1_4 : Option Addr) (c1_4 : Nat) (l1_4 : List (S57)) (r : Bool) (w : World) (hr0_4 : Kd.C k57 w A0_4 l0_4.length l0_4) (hc0_4 : l0_4.length ≤ c0_4) (hr1_4 : Kd.C k57 w A1_4 l1_4.length l1_4) (hc1_4 : l1_4.length ≤ c1_4) (h : laws_eqFair.f k a0_0 a0_1 a0_2 a0_3 l0_4 a1_0 a1_1 a1_2 a1_3 l1_4 = some r) :
  Calls Try.prog 24 #[.agg #[I L a0_0,I L a0_1,I L a0_2,I L a0_3,Y A0_4 l0_4.length c0_4],.agg #[I L a1_0,I L a1_1,I L a1_2,I L a1_3,Y A1_4 l1_4.length c1_4]] w fun e w'=>e=.returned (.bool r)∧Below w.heap.size w w':=by
 have hu34 := Try.underlying34
 have hu31 := Try.underlying31
 have HR0_4 := D hr0_4
 have HC0_4 := D hc0_4
 clear hr0_4 hc0_4
 have HR1_4 := D hr1_4
 have HC1_4 := D hc1_4
 clear hr1_4 hc1_4
 have HB := D (Below.refl w.heap.size w)
 have H:(if a0_0=a1_0 then ((laws_eqVec.f a0_1 a0_2 a0_3 a1_1 a1_2 a1_3).bind fun t415=>(if t415=true then ((laws_eqKidS.f k l0_4 l1_4).bind fun t416=>(if t416=true then (some true) else (some false))) else (some false))) else (some false))=some r:=h
 clear h
 have HU3 := D H
 clear H
 go_enter Try.func24, Try.ntmps24
 go_upto_if 9 with (first|((with_reducible refine gate_dst (N:=2) rfl ?_);refine bx_ (N:=2) (cs:=#[I L a0_0,I L a0_1,I L a0_2,I L a0_3,Y A0_4 l0_4.length c0_4]) (t:=34) ?_;intro gb413 hg w4 hbox hb;have n_:=an_ (below_step (pB_ HB.out) hb)<|an_ (hbox)<|an_ (bg_ hg (pB_ HB.out):w.heap.size≤gb413)<|D (bg_ hg (pB_ HB.out):w.heap.size≤gb413);clear HB;obtain ⟨HB,BK413,GW413,GE413⟩:=n_;clear hb hbox hg)|((with_reducible refine gate_dst (N:=3) rfl ?_);refine bx_ (N:=3) (cs:=#[I L a1_0,I L a1_1,I L a1_2,I L a1_3,Y A1_4 l1_4.length c1_4]) (t:=34) ?_;intro gb414 hg w5 hbox hb;have n_:=an_ (blk_below (pk_ BK413.out) hb)<|an_ (below_step (pB_ HB.out) hb)<|an_ (hbox)<|an_ (bg_ hg (pB_ HB.out):w.heap.size≤gb414)<|an_ (bg_ hg (pB_ HB.out):w.heap.size≤gb414)<|an_ (nl_ hg (pk_ BK413.out):gb413≠gb414)<|D (by rw [hg];exact Nat.ne_of_gt (blk_lt (pk_ BK413.out)):gb414≠gb413);clear BK413 HB;obtain ⟨BK413,HB,BK414,GW414,GE414,NB413_414,NB414_413⟩:=n_;clear hb hbox hg;(try have:=NB413_414.out);(try have:=NB414_413.out);have hcz7_0:=cells5 BK413.out;have hcz8_0:=cells5 BK414.out))
 have H := HU3.out
 clear HU3
 by_cases c9 : a0_0 = a1_0
 ·rw [if_pos c9] at H
  have c9b0:(a0_0 == a1_0)=true:=beq_iff_eq.mpr c9;have c9b1:(a0_0 != a1_0)=false:=bne_eq_false_iff_eq.mpr c9;clear c9;refine rw_ c9b0 ?_;obtain ⟨t415,A100,H⟩:=bs_.mp H;(try dsimp only at H);have A10:=D A100;clear A100;have HU11:=D H;clear H;(try have:=NB413_414.out);(try have:=NB414_413.out);have hcz13_0:=cells5 BK413.out;have hcz14_0:=cells5 BK414.out
  go_upto_if 15 with (first|((with_reducible refine gate_callee (f:=43) rfl ?_);refine goesL_ (some 14) rfl rfl Try.func43 (by kernel_rfl) rfl #[.agg #[I L a0_1,I L a0_2,I L a0_3],.agg #[I L a1_1,I L a1_2,I L a1_3]] rfl Z12 ?_;(with_reducible refine (laws_eqVec.calls a0_1 a0_2 a0_3 a1_1 a1_2 a1_3 t415 _ A10.out).mono ?_);rintro e w15 ⟨rfl,hb⟩;refine ⟨_,rfl,?_⟩;have n_:=an_ (blk_below (pk_ BK413.out) hb)<|an_ (blk_below (pk_ BK414.out) hb)<|D (below_step (pB_ HB.out) hb);clear BK413 BK414 HB;obtain ⟨BK413,BK414,HB⟩:=n_;(try clear hb)))
  have H := HU11.out; clear HU11
  by_cases c16 : t415 = true
  ·subst c16
   rw [if_pos rfl] at H;obtain ⟨t416,A170,H⟩:=bs_.mp H;(try dsimp only at H);have A17:=D A170;clear A170;have HU18:=D H;clear H;(try have:=NB413_414.out);(try have:=NB414_413.out);have hcz20_0:=cells5 BK413.out;have hcz21_0:=cells5 BK414.out
   go_upto_if 21 with (first|((with_reducible refine gate_callee (f:=44) rfl ?_);refine goesL_ (some 20) rfl rfl Try.func44 (by kernel_rfl) rfl #[Y A0_4 l0_4.length c0_4,Y A1_4 l1_4.length c1_4] rfl Z12 ?_;(with_reducible refine (laws_eqKidS.calls k _ _ l0_4 _ _ l1_4 t416 _ ?side1 ?side2 ?side3 ?side4 A17.out).mono ?_);(case side1=>exact pC_ (Kd.C_below HR0_4.out HB.out));(case side2=>exact HC0_4.out);(case side3=>exact pC_ (Kd.C_below HR1_4.out HB.out));(case side4=>exact HC1_4.out);rintro e w22 ⟨rfl,hb⟩;refine ⟨_,rfl,?_⟩;have n_:=an_ (blk_below (pk_ BK413.out) hb)<|an_ (blk_below (pk_ BK414.out) hb)<|D (below_step (pB_ HB.out) hb);clear BK413 BK414 HB;obtain ⟨BK413,BK414,HB⟩:=n_;(try clear hb)))
   have H := HU18.out; clear HU18
   by_cases c23 : t416 = true
   ·subst c23
    rw [if_pos rfl] at H; obtain rfl := Option.some.inj H
    go_wp2
    go_ret; exact ⟨er_, pB_ HB.out⟩
   ·replace c23 := Bool.eq_false_iff.mpr c23
    subst c23; rw [if_neg (show ¬ (false = true) by decide)] at H; obtain rfl := Option.some.inj H
    go_wp2
    go_ret; exact ⟨er_, pB_ HB.out⟩
  ·replace c16 := Bool.eq_false_iff.mpr c16
   subst c16; rw [if_neg (show ¬ (false = true) by decide)] at H; obtain rfl := Option.some.inj H
   go_wp2
   go_ret; exact ⟨er_, pB_ HB.out⟩
 ·rw [if_neg c9] at H
  have c9b0:(a0_0 == a1_0)=false:=beq_eq_false_iff_ne.mpr c9;have c9b1:(a0_0 != a1_0)=true:=bne_iff_ne.mpr c9;refine rw_ c9b0 ?_;obtain rfl:=Option.some.inj H
  go_wp2
  go_ret; exact ⟨er_, pB_ HB.out⟩

/-! ### laws_eqBranch: function 45 -/
def laws_eqBranch.f (k : Nat) (a0_0 a0_1 a0_2 a0_3 a0_4 : Int) (l0_5 : List (S57)) (a1_0 a1_1 a1_2 a1_3 a1_4 : Int) (l1_5 : List (S57)) : Option (Bool) := if a0_0 = a1_0 then ((laws_eqFair.f k a0_1 a0_2 a0_3 a0_4 l0_5 a1_1 a1_2 a1_3 a1_4 l1_5).bind fun t419 => (if t419 = true then (some true) else (some false))) else (some false)
set_option maxHeartbeats 8000000 in
set_option maxRecDepth 100000 in
theorem laws_eqBranch.calls (k : Nat) (a0_0 a0_1 a0_2 a0_3 a0_4 : Int) (A0_5 : Option Addr) (c0_5 : Nat) (l0_5 : List (S57)) (a1_0 a1_1 a1_2 a1_3 a1_4 : Int) (A1_5 : Option Addr) (c1_5 : Nat) (l1_5 : List (S57)) (r : Bool) (w : World) (hr0_5 : Kd.C k57 w A0_5 l0_5.length l0_5) (hc0_5 : l0_5.length ≤ c0_5) (hr1_5 : Kd.C k57 w A1_5 l1_5.length l1_5) (hc1_5 : l1_5.length ≤ c1_5) (h : laws_eqBranch.f k a0_0 a0_1 a0_2 a0_3 a0_4 l0_5 a1_0 a1_1 a1_2 a1_3 a1_4 l1_5 = some r) :
  Calls Try.prog 45 #[.agg #[I L a0_0,I L a0_1,I L a0_2,I L a0_3,I L a0_4,Y A0_5 l0_5.length c0_5],.agg #[I L a1_0,I L a1_1,I L a1_2,I L a1_3,I L a1_4,Y A1_5 l1_5.length c1_5]] w fun e w'=>e=.returned (.bool r)∧Below w.heap.size w w':=by
 have hu50 := Try.underlying50
 have hu34 := Try.underlying34
 have HR0_5 := D hr0_5
 have HC0_5 := D hc0_5
 clear hr0_5 hc0_5
 have HR1_5 := D hr1_5
 have HC1_5 := D hc1_5
 clear hr1_5 hc1_5
 have HB := D (Below.refl w.heap.size w)
 have H:(if a0_0=a1_0 then ((laws_eqFair.f k a0_1 a0_2 a0_3 a0_4 l0_5 a1_1 a1_2 a1_3 a1_4 l1_5).bind fun t419=>(if t419=true then (some true) else (some false))) else (some false))=some r:=h
 clear h
 have HU3 := D H
 clear H
 go_enter Try.func45, Try.ntmps45
 go_upto_if 9 with (first|((with_reducible refine gate_dst (N:=2) rfl ?_);refine bx_ (N:=2) (cs:=#[I L a0_0,I L a0_1,I L a0_2,I L a0_3,I L a0_4,Y A0_5 l0_5.length c0_5]) (t:=50) ?_;intro gb417 hg w4 hbox hb;have n_:=an_ (below_step (pB_ HB.out) hb)<|an_ (hbox)<|an_ (bg_ hg (pB_ HB.out):w.heap.size≤gb417)<|D (bg_ hg (pB_ HB.out):w.heap.size≤gb417);clear HB;obtain ⟨HB,BK417,GW417,GE417⟩:=n_;clear hb hbox hg)|((with_reducible refine gate_dst (N:=3) rfl ?_);refine bx_ (N:=3) (cs:=#[I L a1_0,I L a1_1,I L a1_2,I L a1_3,I L a1_4,Y A1_5 l1_5.length c1_5]) (t:=50) ?_;intro gb418 hg w5 hbox hb;have n_:=an_ (blk_below (pk_ BK417.out) hb)<|an_ (below_step (pB_ HB.out) hb)<|an_ (hbox)<|an_ (bg_ hg (pB_ HB.out):w.heap.size≤gb418)<|an_ (bg_ hg (pB_ HB.out):w.heap.size≤gb418)<|an_ (nl_ hg (pk_ BK417.out):gb417≠gb418)<|D (by rw [hg];exact Nat.ne_of_gt (blk_lt (pk_ BK417.out)):gb418≠gb417);clear BK417 HB;obtain ⟨BK417,HB,BK418,GW418,GE418,NB417_418,NB418_417⟩:=n_;clear hb hbox hg;(try have:=NB417_418.out);(try have:=NB418_417.out);have hcz7_0:=cells6 BK417.out;have hcz8_0:=cells6 BK418.out))
 have H := HU3.out
 clear HU3
 by_cases c9 : a0_0 = a1_0
 ·rw [if_pos c9] at H
  have c9b0:(a0_0 == a1_0)=true:=beq_iff_eq.mpr c9;have c9b1:(a0_0 != a1_0)=false:=bne_eq_false_iff_eq.mpr c9;clear c9;refine rw_ c9b0 ?_;obtain ⟨t419,A100,H⟩:=bs_.mp H;(try dsimp only at H);have A10:=D A100;clear A100;have HU11:=D H;clear H;(try have:=NB417_418.out);(try have:=NB418_417.out);have hcz13_0:=cells6 BK417.out;have hcz14_0:=cells6 BK418.out
  go_upto_if 15 with (first|((with_reducible refine gate_callee (f:=24) rfl ?_);refine goesL_ (some 14) rfl rfl Try.func24 (by kernel_rfl) rfl #[.agg #[I L a0_1,I L a0_2,I L a0_3,I L a0_4,Y A0_5 l0_5.length c0_5],.agg #[I L a1_1,I L a1_2,I L a1_3,I L a1_4,Y A1_5 l1_5.length c1_5]] rfl Z12 ?_;(with_reducible refine (laws_eqFair.calls k a0_1 a0_2 a0_3 a0_4 _ _ l0_5 a1_1 a1_2 a1_3 a1_4 _ _ l1_5 t419 _ ?side1 ?side2 ?side3 ?side4 A10.out).mono ?_);(case side1=>exact pC_ (Kd.C_below HR0_5.out HB.out));(case side2=>exact HC0_5.out);(case side3=>exact pC_ (Kd.C_below HR1_5.out HB.out));(case side4=>exact HC1_5.out);rintro e w15 ⟨rfl,hb⟩;refine ⟨_,rfl,?_⟩;have n_:=an_ (blk_below (pk_ BK417.out) hb)<|an_ (blk_below (pk_ BK418.out) hb)<|D (below_step (pB_ HB.out) hb);clear BK417 BK418 HB;obtain ⟨BK417,BK418,HB⟩:=n_;(try clear hb)))
  have H := HU11.out; clear HU11
  by_cases c16 : t419 = true
  ·subst c16
   rw [if_pos rfl] at H; obtain rfl := Option.some.inj H
   go_wp2
   go_ret; exact ⟨er_, pB_ HB.out⟩
  ·replace c16 := Bool.eq_false_iff.mpr c16
   subst c16; rw [if_neg (show ¬ (false = true) by decide)] at H; obtain rfl := Option.some.inj H
   go_wp2
   go_ret; exact ⟨er_, pB_ HB.out⟩
 ·rw [if_neg c9] at H
  have c9b0:(a0_0 == a1_0)=false:=beq_eq_false_iff_ne.mpr c9;have c9b1:(a0_0 != a1_0)=true:=bne_iff_ne.mpr c9;refine rw_ c9b0 ?_;obtain rfl:=Option.some.inj H
  go_wp2
  go_ret; exact ⟨er_, pB_ HB.out⟩

/-! ### laws_eqBranchS: function 25 -/
def laws_eqBranchS.l0 : Nat → List (S50) → List (S50) → Int → Option (Bool)
 | 0, _, _, _ => none
 | k + 1,x0,x1,x5=>if x5 < (x0.length:Int) then (if 0≤x5 then (if x5 < (x1.length:Int) then ((laws_eqBranch.f k ((rd_T50 x0 x5).f0) ((rd_T50 x0 x5).f1.f0) ((rd_T50 x0 x5).f1.f1.f0) ((rd_T50 x0 x5).f1.f1.f1) ((rd_T50 x0 x5).f1.f1.f2) ((rd_T50 x0 x5).f1.f2) ((rd_T50 x1 x5).f0) ((rd_T50 x1 x5).f1.f0) ((rd_T50 x1 x5).f1.f1.f0) ((rd_T50 x1 x5).f1.f1.f1) ((rd_T50 x1 x5).f1.f1.f2) ((rd_T50 x1 x5).f1.f2)).bind fun t422=>(if t422=true then (laws_eqBranchS.l0 k x0 x1 (wrap64 (x5 + 1))) else (some false))) else (none)) else (none)) else (some true)
def laws_eqBranchS.f (k : Nat) (l0 l1 : List (S50)) : Option (Bool) := if (l0.length : Int) = (l1.length : Int) then (laws_eqBranchS.l0 k l0 l1 0) else (some false)
def laws_eqBranchS.T6 : Bool × List (List Nat × List Nat) := (true, [([], []), ([], []), ([0, 1], [0, 1]), ([2], [2]), ([], []), ([], []), ([4, 5], [4, 5]), ([6], [6]), ([3, 7], [3, 7]), ([8], [8])])
def laws_eqBranchS.B6 : List Nat := [0, 0, 3, 7, 0, 0, 48, 112, 255, 511]
theorem laws_eqBranchS.tab6 : rtab .any (opsOf Try.f25 6) = laws_eqBranchS.T6 := by kernel_rfl
theorem laws_eqBranchS.bits6 : waitsOk laws_eqBranchS.T6.2 laws_eqBranchS.B6 = true := by kernel_rfl
set_option maxHeartbeats 8000000 in
set_option maxRecDepth 100000 in
theorem laws_eqBranchS.calls (k : Nat) (A0 : Option Addr) (c0 : Nat) (l0 : List (S50)) (A1 : Option Addr) (c1 : Nat) (l1 : List (S50)) (r : Bool) (w : World) (hr0 : Kd.C k50 w A0 l0.length l0) (hc0 : l0.length ≤ c0) (hr1 : Kd.C k50 w A1 l1.length l1) (hc1 : l1.length ≤ c1) (h : laws_eqBranchS.f k l0 l1 = some r) :
  Calls Try.prog 25 #[Y A0 l0.length c0, Y A1 l1.length c1] w fun e w' => e = .returned (.bool r) ∧ Below w.heap.size w w' := by
 have hu50 := Try.underlying50
 have HR0 := D hr0
 have HC0 := D hc0
 clear hr0 hc0
 have HR1 := D hr1
 have HC1 := D hc1
 clear hr1 hc1
 have HB := D (Below.refl w.heap.size w)
 have H : (if (l0.length : Int) = (l1.length : Int) then (laws_eqBranchS.l0 k l0 l1 0) else (some false)) = some r := h
 clear h
 by_cases c3 : (l0.length : Int) = (l1.length : Int)
 ·rw [if_pos c3] at H
  have c3b0 : ((l0.length : Int) == (l1.length : Int)) = true := beq_iff_eq.mpr c3; have c3b1 : ((l0.length : Int) != (l1.length : Int)) = false := bne_eq_false_iff_eq.mpr c3
  have c3b2 : (l0.length == l1.length) = true := by first | simpa using c3 | (simp at c3 ⊢; omega)
  clear c3; have H' := D H; clear H; go_enter Try.func25, Try.ntmps25
  go_wp2
  go_loopg [5] k (fun kq v5 w' => ∃ (x5_1 : Int), v5 = I L x5_1 ∧ Aside0 (laws_eqBranchS.l0 kq l0 l1 x5_1 = some r) ∧ Aside0 (kq ≤ k) ∧ Aside0 (Below w.heap.size w w'))
  case atStart => exact ⟨(0), Z44, H', ⟨Nat.le_refl _⟩, ⟨pB_ HB.out⟩⟩
  case round =>
   clear H'
   (try clear c1);(try clear c2);(try clear p2);(try clear c3);(try clear c3b0);(try clear c3b1);(try clear c3b2)
   obtain ⟨x5_1, rfl, HA, HK1, HB⟩ := hrel
   cases gk with
   | zero => exact absurd HA.out (by simp [laws_eqBranchS.l0])
   | succ k1 =>
    have H := HA.out; clear HA; simp only [laws_eqBranchS.l0] at H
    by_cases c4 : x5_1 < (l0.length : Int)
    ·rw [if_pos c4] at H
     have c4b0 : decide (x5_1 < (l0.length : Int)) = true := decide_eq_true c4; clear c4
     by_cases c5 : 0 ≤ x5_1
     ·rw [if_pos c5] at H
      have c5b0 : decide (0 ≤ x5_1) = true := decide_eq_true c5; clear c5
      by_cases c6 : x5_1 < (l1.length : Int)
      ·rw [if_pos c6] at H
       have c6b0:decide (x5_1 < (l1.length:Int))=true:=decide_eq_true c6;clear c6;obtain ⟨t422,A70,H⟩:=bs_.mp H;(try dsimp only at H);have A7:=D A70;clear A70;have HU8:=D H;clear H
       try go_wp2
       have n0_:=D (below_drew1 HB.out);clear HB;have HB:=n0_;clear n0_;have p420:0≤(x5_1:Int):=od_ Z43;have q420:x5_1 < (l0.length:Int):=od_ Z43;obtain ⟨ad420,A420_5,c420_5,e420,hx420_0,hx420_1,hx420_2,hx420_3,hx420_4,hx420_5,hl420_5,hi420_5⟩:=at_T50 HR0.out x5_1 p420 q420;have hw420_5:=hx420_5;have hw420_4:=hx420_4;have hw420_3:=hx420_3;have hw420_2:=hx420_2;have hw420_1:=hx420_1;have hw420_0:=hx420_0;cases e420;replace hx420_0:=rc_ HB.out hx420_0;replace hx420_1:=rc_ HB.out hx420_1;replace hx420_2:=rc_ HB.out hx420_2;replace hx420_3:=rc_ HB.out hx420_3;replace hx420_4:=rc_ HB.out hx420_4;replace hx420_5:=rc_ HB.out hx420_5;have HR420_5:=D hi420_5;have HC420_5:=D hl420_5;clear hi420_5 hl420_5;replace p420:=eq_true p420;replace q420:=eq_true q420;have p421:0≤(x5_1:Int):=od_ Z43;have q421:x5_1 < (l1.length:Int):=od_ Z43;obtain ⟨ad421,A421_5,c421_5,e421,hx421_0,hx421_1,hx421_2,hx421_3,hx421_4,hx421_5,hl421_5,hi421_5⟩:=at_T50 HR1.out x5_1 p421 q421;have hw421_5:=hx421_5;have hw421_4:=hx421_4;have hw421_3:=hx421_3;have hw421_2:=hx421_2;have hw421_1:=hx421_1;have hw421_0:=hx421_0;cases e421;replace hx421_0:=rc_ HB.out hx421_0;replace hx421_1:=rc_ HB.out hx421_1;replace hx421_2:=rc_ HB.out hx421_2;replace hx421_3:=rc_ HB.out hx421_3;replace hx421_4:=rc_ HB.out hx421_4;replace hx421_5:=rc_ HB.out hx421_5;have HR421_5:=D hi421_5;have HC421_5:=D hl421_5;clear hi421_5 hl421_5;replace p421:=eq_true p421;replace q421:=eq_true q421;refine start_ (n:=10) (S:=fun w'=>w'.cell? (ad420.add ((x5_1).toNat * 6))=some (I L ((rd_T50 l0 x5_1).f0))∧w'.cell? ⟨(ad420.add ((x5_1).toNat * 6)).block,(ad420.add ((x5_1).toNat * 6)).off + 1,none⟩=some (I L ((rd_T50 l0 x5_1).f1.f0))∧w'.cell? ⟨(ad420.add ((x5_1).toNat * 6)).block,(ad420.add ((x5_1).toNat * 6)).off + 2,none⟩=some (I L ((rd_T50 l0 x5_1).f1.f1.f0))∧w'.cell? ⟨(ad420.add ((x5_1).toNat * 6)).block,(ad420.add ((x5_1).toNat * 6)).off + 3,none⟩=some (I L ((rd_T50 l0 x5_1).f1.f1.f1))∧w'.cell? ⟨(ad420.add ((x5_1).toNat * 6)).block,(ad420.add ((x5_1).toNat * 6)).off + 4,none⟩=some (I L ((rd_T50 l0 x5_1).f1.f1.f2))∧w'.cell? ⟨(ad420.add ((x5_1).toNat * 6)).block,(ad420.add ((x5_1).toNat * 6)).off + 5,none⟩=some (Y A420_5 ((rd_T50 l0 x5_1).f1.f2).length c420_5)∧w'.cell? (ad421.add ((x5_1).toNat * 6))=some (I L ((rd_T50 l1 x5_1).f0))∧w'.cell? ⟨(ad421.add ((x5_1).toNat * 6)).block,(ad421.add ((x5_1).toNat * 6)).off + 1,none⟩=some (I L ((rd_T50 l1 x5_1).f1.f0))∧w'.cell? ⟨(ad421.add ((x5_1).toNat * 6)).block,(ad421.add ((x5_1).toNat * 6)).off + 2,none⟩=some (I L ((rd_T50 l1 x5_1).f1.f1.f0))∧w'.cell? ⟨(ad421.add ((x5_1).toNat * 6)).block,(ad421.add ((x5_1).toNat * 6)).off + 3,none⟩=some (I L ((rd_T50 l1 x5_1).f1.f1.f1))∧w'.cell? ⟨(ad421.add ((x5_1).toNat * 6)).block,(ad421.add ((x5_1).toNat * 6)).off + 4,none⟩=some (I L ((rd_T50 l1 x5_1).f1.f1.f2))∧w'.cell? ⟨(ad421.add ((x5_1).toNat * 6)).block,(ad421.add ((x5_1).toNat * 6)).off + 5,none⟩=some (Y A421_5 ((rd_T50 l1 x5_1).f1.f2).length c421_5)) (ds:=[]) (bz 10 0) (by kernel_rfl) rfl (by kernel_rfl) (rk6_ HB.out hw420_0 hw420_1 hw420_2 hw420_3 hw420_4 hw420_5 (re6_ HB.out hw421_0 hw421_1 hw421_2 hw421_3 hw421_4 hw421_5)) (fun hHeld=>?_);refine with_tabW laws_eqBranchS.tab6 laws_eqBranchS.bits6 (fun HT_ HW_=>?_)
       generalize wr.drew=w9 at HB HR420_5 HR421_5 hx420_0 hx420_1 hx420_2 hx420_3 hx420_4 hx420_5 hx421_0 hx421_1 hx421_2 hx421_3 hx421_4 hx421_5 hHeld ⊢;refine pb_ 0 ?_;refine pb_ 1 ?_;refine pb_ 2 ?_;refine pb_ 4 ?_;refine pb_ 5 ?_;refine pb_ 6 ?_;refine tb_ 3 rfl rfl hHeld Z38 ?_;refine tb_ 7 rfl rfl hHeld Z38 ?_;refine oa_ 8 25 10 511 HT_ (fun K hK=>?_);refine goes_ Try.func45 (by kernel_rfl) rfl #[.agg #[I L ((rd_T50 l0 x5_1).f0),I L ((rd_T50 l0 x5_1).f1.f0),I L ((rd_T50 l0 x5_1).f1.f1.f0),I L ((rd_T50 l0 x5_1).f1.f1.f1),I L ((rd_T50 l0 x5_1).f1.f1.f2),Y A420_5 ((rd_T50 l0 x5_1).f1.f2).length c420_5],.agg #[I L ((rd_T50 l1 x5_1).f0),I L ((rd_T50 l1 x5_1).f1.f0),I L ((rd_T50 l1 x5_1).f1.f1.f0),I L ((rd_T50 l1 x5_1).f1.f1.f1),I L ((rd_T50 l1 x5_1).f1.f1.f2),Y A421_5 ((rd_T50 l1 x5_1).f1.f2).length c421_5]] (by rfl) rfl rfl Z12 ?_;with_reducible refine (laws_eqBranch.calls k1 ((rd_T50 l0 x5_1).f0) ((rd_T50 l0 x5_1).f1.f0) ((rd_T50 l0 x5_1).f1.f1.f0) ((rd_T50 l0 x5_1).f1.f1.f1) ((rd_T50 l0 x5_1).f1.f1.f2) _ _ ((rd_T50 l0 x5_1).f1.f2) ((rd_T50 l1 x5_1).f0) ((rd_T50 l1 x5_1).f1.f0) ((rd_T50 l1 x5_1).f1.f1.f0) ((rd_T50 l1 x5_1).f1.f1.f1) ((rd_T50 l1 x5_1).f1.f1.f2) _ _ ((rd_T50 l1 x5_1).f1.f2) t422 _ ?side1 ?side2 ?side3 ?side4 A7.out).mono ?_
       (case side1=>exact pC_ (Kd.C_below HR420_5.out HB.out));(case side2=>exact HC420_5.out);(case side3=>exact pC_ (Kd.C_below HR421_5.out HB.out));(case side4=>exact HC421_5.out);rintro e w10 ⟨rfl,hb⟩;refine ⟨_,rfl,?_⟩;have n0_:=D (below_step (pB_ HB.out) hb);clear HB;have HB:=n0_;clear n0_;(try clear hb);refine hK.out _ _ (rk6_ HB.out hw420_0 hw420_1 hw420_2 hw420_3 hw420_4 hw420_5 (re6_ HB.out hw421_0 hw421_1 hw421_2 hw421_3 hw421_4 hw421_5)) (fun hHeld=>?_);clear hK K;refine nx_ (N:=some 25) ?_;refine pb_ 9 ?_;refine done_ (done_of HT_.out (by kernel_rfl)) ?_
       go_upto_if 26 with (fail)
       have H := HU8.out; clear HU8
       by_cases c11 : t422 = true
       ·subst c11
        rw [if_pos rfl] at H; have H' := D H; clear H
        go_wp2
        go_roundg k1
        case measure => have := HK1.out; omega
        case rel => exact ⟨(wrap64 (x5_1 + 1)), Z44, H', ⟨by have := HK1.out; omega⟩, ⟨pB_ HB.out⟩⟩
       ·replace c11 := Bool.eq_false_iff.mpr c11
        subst c11; rw [if_neg (show ¬ (false = true) by decide)] at H; obtain rfl := Option.some.inj H
        go_wp2
        go_ret; exact ⟨er_, pB_ HB.out⟩
      ·rw [if_neg c6] at H
       exact absurd H (by simp)
     ·rw [if_neg c5] at H
      exact absurd H (by simp)
    ·rw [if_neg c4] at H
     have c4b0 : decide (x5_1 < (l0.length : Int)) = false := decide_eq_false c4; clear c4; obtain rfl := Option.some.inj H
     go_wp2
     go_ret; exact ⟨er_, pB_ HB.out⟩
 ·rw [if_neg c3] at H
  have c3b0 : ((l0.length : Int) == (l1.length : Int)) = false := beq_eq_false_iff_ne.mpr c3; have c3b1 : ((l0.length : Int) != (l1.length : Int)) = true := bne_iff_ne.mpr c3
  have c3b2 : (l0.length == l1.length) = false := by first | simpa using c3 | (simp at c3 ⊢; omega)
  obtain rfl := Option.some.inj H; go_enter Try.func25, Try.ntmps25
  go_wp2
  go_ret; exact ⟨er_, pB_ HB.out⟩

/-! ### laws_eqTree: function 8 -/
def laws_eqTree.f (k : Nat) (a0_0 a0_1 a0_2 a0_3 : Int) (l0_4 : List (S57)) (l0_5 : List (S50)) (a1_0 a1_1 a1_2 a1_3 : Int) (l1_4 : List (S57)) (l1_5 : List (S50)) : Option (Bool) := (laws_eqFair.f k a0_0 a0_1 a0_2 a0_3 l0_4 a1_0 a1_1 a1_2 a1_3 l1_4).bind fun t425 => (if t425 = true then ((laws_eqBranchS.f k l0_5 l1_5).bind fun t426 => (if t426 = true then (some true) else (some false))) else (some false))
set_option maxHeartbeats 8000000 in
set_option maxRecDepth 100000 in
theorem laws_eqTree.calls (k : Nat) (a0_0 a0_1 a0_2 a0_3 : Int) (A0_4 : Option Addr) (c0_4 : Nat) (l0_4 : List (S57)) (A0_5 : Option Addr) (c0_5 : Nat) (l0_5 : List (S50)) (a1_0 a1_1 a1_2 a1_3 : Int) (A1_4 : Option Addr) (c1_4 : Nat) (l1_4 : List (S57)) (A1_5 : Option Addr) (c1_5 : Nat) (l1_5 : List (S50)) (r : Bool) (w : World) (hr0_4 : Kd.C k57 w A0_4 l0_4.length l0_4) (hc0_4 : l0_4.length ≤ c0_4) (hr0_5 : Kd.C k50 w A0_5 l0_5.length l0_5) (hc0_5 : l0_5.length ≤ c0_5) (hr1_4 : Kd.C k57 w A1_4 l1_4.length l1_4) (hc1_4 : l1_4.length ≤ c1_4) (hr1_5 : Kd.C k50 w A1_5 l1_5.length l1_5) (hc1_5 : l1_5.length ≤ c1_5) (h : laws_eqTree.f k a0_0 a0_1 a0_2 a0_3 l0_4 l0_5 a1_0 a1_1 a1_2 a1_3 l1_4 l1_5 = some r) :
  Calls Try.prog 8 #[.agg #[I L a0_0,I L a0_1,I L a0_2,I L a0_3,Y A0_4 l0_4.length c0_4,Y A0_5 l0_5.length c0_5],.agg #[I L a1_0,I L a1_1,I L a1_2,I L a1_3,Y A1_4 l1_4.length c1_4,Y A1_5 l1_5.length c1_5]] w fun e w'=>e=.returned (.bool r)∧Below w.heap.size w w':=by
 have hu37 := Try.underlying37
 have hu34 := Try.underlying34
 have HR0_4 := D hr0_4
 have HC0_4 := D hc0_4
 clear hr0_4 hc0_4
 have HR0_5 := D hr0_5
 have HC0_5 := D hc0_5
 clear hr0_5 hc0_5
 have HR1_4 := D hr1_4
 have HC1_4 := D hc1_4
 clear hr1_4 hc1_4
 have HR1_5 := D hr1_5
 have HC1_5 := D hc1_5
 clear hr1_5 hc1_5
 have HB := D (Below.refl w.heap.size w)
 have H:((laws_eqFair.f k a0_0 a0_1 a0_2 a0_3 l0_4 a1_0 a1_1 a1_2 a1_3 l1_4).bind fun t425=>(if t425=true then ((laws_eqBranchS.f k l0_5 l1_5).bind fun t426=>(if t426=true then (some true) else (some false))) else (some false)))=some r:=h
 clear h
 obtain ⟨t425, A30, H⟩ := bs_.mp H
 (try dsimp only at H)
 have A3 := D A30
 clear A30
 have HU4 := D H
 clear H
 go_enter Try.func8, Try.ntmps8
 go_upto_if 10 with (first|((with_reducible refine gate_dst (N:=2) rfl ?_);refine bx_ (N:=2) (cs:=#[I L a0_0,I L a0_1,I L a0_2,I L a0_3,Y A0_4 l0_4.length c0_4,Y A0_5 l0_5.length c0_5]) (t:=37) ?_;intro gb423 hg w5 hbox hb;have n_:=an_ (below_step (pB_ HB.out) hb)<|an_ (hbox)<|an_ (bg_ hg (pB_ HB.out):w.heap.size≤gb423)<|D (bg_ hg (pB_ HB.out):w.heap.size≤gb423);clear HB;obtain ⟨HB,BK423,GW423,GE423⟩:=n_;clear hb hbox hg)|((with_reducible refine gate_dst (N:=3) rfl ?_);refine bx_ (N:=3) (cs:=#[I L a1_0,I L a1_1,I L a1_2,I L a1_3,Y A1_4 l1_4.length c1_4,Y A1_5 l1_5.length c1_5]) (t:=37) ?_;intro gb424 hg w6 hbox hb;have n_:=an_ (blk_below (pk_ BK423.out) hb)<|an_ (below_step (pB_ HB.out) hb)<|an_ (hbox)<|an_ (bg_ hg (pB_ HB.out):w.heap.size≤gb424)<|an_ (bg_ hg (pB_ HB.out):w.heap.size≤gb424)<|an_ (nl_ hg (pk_ BK423.out):gb423≠gb424)<|D (by rw [hg];exact Nat.ne_of_gt (blk_lt (pk_ BK423.out)):gb424≠gb423);clear BK423 HB;obtain ⟨BK423,HB,BK424,GW424,GE424,NB423_424,NB424_423⟩:=n_;clear hb hbox hg;(try have:=NB423_424.out);(try have:=NB424_423.out);have hcz8_0:=cells6 BK423.out;have hcz9_0:=cells6 BK424.out)|((with_reducible refine gate_callee (f:=24) rfl ?_);refine goesL_ (some 9) rfl rfl Try.func24 (by kernel_rfl) rfl #[.agg #[I L a0_0,I L a0_1,I L a0_2,I L a0_3,Y A0_4 l0_4.length c0_4],.agg #[I L a1_0,I L a1_1,I L a1_2,I L a1_3,Y A1_4 l1_4.length c1_4]] rfl Z12 ?_;(with_reducible refine (laws_eqFair.calls k a0_0 a0_1 a0_2 a0_3 _ _ l0_4 a1_0 a1_1 a1_2 a1_3 _ _ l1_4 t425 _ ?side1 ?side2 ?side3 ?side4 A3.out).mono ?_);(case side1=>exact pC_ (Kd.C_below HR0_4.out HB.out));(case side2=>exact HC0_4.out);(case side3=>exact pC_ (Kd.C_below HR1_4.out HB.out));(case side4=>exact HC1_4.out);rintro e w10 ⟨rfl,hb⟩;refine ⟨_,rfl,?_⟩;have n_:=an_ (blk_below (pk_ BK423.out) hb)<|an_ (blk_below (pk_ BK424.out) hb)<|D (below_step (pB_ HB.out) hb);clear BK423 BK424 HB;obtain ⟨BK423,BK424,HB⟩:=n_;(try clear hb)))
 have H := HU4.out
 clear HU4
 by_cases c11 : t425 = true
 ·subst c11
  rw [if_pos rfl] at H;obtain ⟨t426,A120,H⟩:=bs_.mp H;(try dsimp only at H);have A12:=D A120;clear A120;have HU13:=D H;clear H;(try have:=NB423_424.out);(try have:=NB424_423.out);have hcz15_0:=cells6 BK423.out;have hcz16_0:=cells6 BK424.out
  go_upto_if 16 with (first|((with_reducible refine gate_callee (f:=25) rfl ?_);refine goesL_ (some 15) rfl rfl Try.func25 (by kernel_rfl) rfl #[Y A0_5 l0_5.length c0_5,Y A1_5 l1_5.length c1_5] rfl Z12 ?_;(with_reducible refine (laws_eqBranchS.calls k _ _ l0_5 _ _ l1_5 t426 _ ?side1 ?side2 ?side3 ?side4 A12.out).mono ?_);(case side1=>exact pC_ (Kd.C_below HR0_5.out HB.out));(case side2=>exact HC0_5.out);(case side3=>exact pC_ (Kd.C_below HR1_5.out HB.out));(case side4=>exact HC1_5.out);rintro e w17 ⟨rfl,hb⟩;refine ⟨_,rfl,?_⟩;have n_:=an_ (blk_below (pk_ BK423.out) hb)<|an_ (blk_below (pk_ BK424.out) hb)<|D (below_step (pB_ HB.out) hb);clear BK423 BK424 HB;obtain ⟨BK423,BK424,HB⟩:=n_;(try clear hb)))
  have H := HU13.out; clear HU13
  by_cases c18 : t426 = true
  ·subst c18
   rw [if_pos rfl] at H; obtain rfl := Option.some.inj H
   go_wp2
   go_ret; exact ⟨er_, pB_ HB.out⟩
  ·replace c18 := Bool.eq_false_iff.mpr c18
   subst c18; rw [if_neg (show ¬ (false = true) by decide)] at H; obtain rfl := Option.some.inj H
   go_wp2
   go_ret; exact ⟨er_, pB_ HB.out⟩
 ·replace c11 := Bool.eq_false_iff.mpr c11
  subst c11; rw [if_neg (show ¬ (false = true) by decide)] at H; obtain rfl := Option.some.inj H
  go_wp2
  go_ret; exact ⟨er_, pB_ HB.out⟩

/-! ### laws_markKidS: function 46 -/
def laws_markKidS.l0 : Nat → List (S57) → Int → Int → Option (Int × (List (S57)))
 | 0, _, _, _ => none
 | k + 1,x0,x1,x5=>if x5 < (x0.length:Int) then (if 0≤x5 then ((some (x0.set (x5:Int).toNat (⟨x1,(rd_T57 x0 x5).f1,(rd_T57 x0 x5).f2,(⟨(rd_T57 x0 x5).f3.f0,(rd_T57 x0 x5).f3.f1,(rd_T57 x0 x5).f3.f2⟩:S31)⟩:S57):List (S57))).bind fun y427=>((some (y427.set (x5:Int).toNat (⟨(rd_T57 y427 x5).f0,wrap64 (x1 + 1),(rd_T57 y427 x5).f2,(⟨(rd_T57 y427 x5).f3.f0,(rd_T57 y427 x5).f3.f1,(rd_T57 y427 x5).f3.f2⟩:S31)⟩:S57):List (S57))).bind fun y428=>((some (y428.set (x5:Int).toNat (⟨(rd_T57 y428 x5).f0,(rd_T57 y428 x5).f1,((Int.tmod (wrap64 ((wrap64 (x1 + 1)) + 1)) 3) == 0),(⟨(rd_T57 y428 x5).f3.f0,(rd_T57 y428 x5).f3.f1,(rd_T57 y428 x5).f3.f2⟩:S31)⟩:S57):List (S57))).bind fun y429=>((some (y429.set (x5:Int).toNat (⟨(rd_T57 y429 x5).f0,(rd_T57 y429 x5).f1,(rd_T57 y429 x5).f2,(⟨wrap64 ((wrap64 ((wrap64 (x1 + 1)) + 1)) + 1),(rd_T57 y429 x5).f3.f1,(rd_T57 y429 x5).f3.f2⟩:S31)⟩:S57):List (S57))).bind fun y430=>((some (y430.set (x5:Int).toNat (⟨(rd_T57 y430 x5).f0,(rd_T57 y430 x5).f1,(rd_T57 y430 x5).f2,(⟨(rd_T57 y430 x5).f3.f0,wrap64 ((wrap64 ((wrap64 ((wrap64 (x1 + 1)) + 1)) + 1)) + 1),(rd_T57 y430 x5).f3.f2⟩:S31)⟩:S57):List (S57))).bind fun y431=>(laws_markKidS.l0 k (y431.set (x5:Int).toNat (⟨(rd_T57 y431 x5).f0,(rd_T57 y431 x5).f1,(rd_T57 y431 x5).f2,(⟨(rd_T57 y431 x5).f3.f0,(rd_T57 y431 x5).f3.f1,wrap64 ((wrap64 ((wrap64 ((wrap64 ((wrap64 (x1 + 1)) + 1)) + 1)) + 1)) + 1)⟩:S31)⟩:S57)) (wrap64 ((wrap64 ((wrap64 ((wrap64 ((wrap64 ((wrap64 (x1 + 1)) + 1)) + 1)) + 1)) + 1)) + 1)) (wrap64 (x5 + 1)))))))) else (none)) else (some (x1,x0))
def laws_markKidS.f (k : Nat) (l0 : List (S57)) (a1 : Int) : Option (Int × (List (S57))) := laws_markKidS.l0 k l0 a1 0
set_option maxHeartbeats 8000000 in
set_option maxRecDepth 100000 in
theorem laws_markKidS.calls (k : Nat) (P0_ : Nat → Prop) (u9000_ : Value) (l0 : List (S57)) (a1 r1 : Int) (r2 : List (S57)) (w0 w : World) (hB : Below w0.heap.size w0 w) (ho0 : Kd.R k57 57 w w0.heap.size P0_ u9000_ l0) (h : laws_markKidS.f k l0 a1 = some (r1, r2)) :
  Calls Try.prog 46 #[u9000_,I L a1] w fun e w'=>e=.returned (I L r1)∧Kd.R k57 57 w' w0.heap.size (fun k_=>(P0_ k_ ∨ w.heap.size≤k_)) u9000_ r2∧Below w0.heap.size w0 w'∧Kept w w' (fun k_=>P0_ k_):=by
 have Oa := D (show Kd.R k57 57 w w0.heap.size (fun k_ => (P0_ k_ ∨ w.heap.size ≤ k_)) u9000_ l0 from Kd.R_mono ho0 (fun k_ hk => (.inl hk)))
 have HK := D (Kept.refl w (fun k_ => P0_ k_))
 have HW0 := D hB.size
 have HB := D hB
 clear hB
 have H : (laws_markKidS.l0 k l0 a1 0) = some (r1, r2) := h
 clear h
 have H' := D H
 clear H
 go_enter Try.func46, Try.ntmps46
 go_wp2
 go_loopg [1,5] k (fun kq v1 v5 w'=>∃ (x0_1:List (S57)) (x1_1:Int) (x5_1:Int),v1=I L x1_1∧v5=I L x5_1∧Aside0 (laws_markKidS.l0 kq x0_1 x1_1 x5_1=some (r1,r2))∧Aside0 (kq≤k)∧Aside0 (Kd.R k57 57 w' w0.heap.size (fun k_=>(P0_ k_ ∨ w.heap.size≤k_)) u9000_ x0_1)∧Aside0 (Kept w w' (fun k_=>P0_ k_))∧Aside0 (Below w0.heap.size w0 w'))
 case atStart=>exact ⟨(l0),(a1),(0),Z44,Z44,H',⟨Nat.le_refl _⟩,⟨pR_ Oa.out⟩,⟨by repeat (first|(with_reducible first|exact HK.out|apply Kept.alloc|apply Kept.drewN|apply Kept.drew)|exact HK.out)⟩,⟨pB_ HB.out⟩⟩
 case round =>
  clear H'
  try clear p2
  obtain ⟨x0_1, x1_1, x5_1, rfl, rfl, HA, HK1, Ja, HK, HB⟩ := hrel
  cases gk with
  | zero => exact absurd HA.out (by simp [laws_markKidS.l0])
  | succ k1 =>
   have H := HA.out; clear HA; simp only [laws_markKidS.l0] at H
   by_cases c3 : x5_1 < (x0_1.length : Int)
   ·rw [if_pos c3] at H
    have c3b0 : decide (x5_1 < (x0_1.length : Int)) = true := decide_eq_true c3; clear c3
    by_cases c4 : 0 ≤ x5_1
    ·rw [if_pos c4] at H
     have c4b0:decide (0≤x5_1)=true:=decide_eq_true c4;clear c4;obtain ⟨y427,hy427⟩:∃ y_:List (S57),y_=(x0_1.set (x5_1:Int).toNat (⟨x1_1,(rd_T57 x0_1 x5_1).f1,(rd_T57 x0_1 x5_1).f2,(⟨(rd_T57 x0_1 x5_1).f3.f0,(rd_T57 x0_1 x5_1).f3.f1,(rd_T57 x0_1 x5_1).f3.f2⟩:S31)⟩:S57)):=⟨_,rfl⟩
     replace H:((some (y427.set (x5_1:Int).toNat (⟨(rd_T57 y427 x5_1).f0,wrap64 (x1_1 + 1),(rd_T57 y427 x5_1).f2,(⟨(rd_T57 y427 x5_1).f3.f0,(rd_T57 y427 x5_1).f3.f1,(rd_T57 y427 x5_1).f3.f2⟩:S31)⟩:S57):List (S57))).bind fun y428=>((some (y428.set (x5_1:Int).toNat (⟨(rd_T57 y428 x5_1).f0,(rd_T57 y428 x5_1).f1,((Int.tmod (wrap64 ((wrap64 (x1_1 + 1)) + 1)) 3) == 0),(⟨(rd_T57 y428 x5_1).f3.f0,(rd_T57 y428 x5_1).f3.f1,(rd_T57 y428 x5_1).f3.f2⟩:S31)⟩:S57):List (S57))).bind fun y429=>((some (y429.set (x5_1:Int).toNat (⟨(rd_T57 y429 x5_1).f0,(rd_T57 y429 x5_1).f1,(rd_T57 y429 x5_1).f2,(⟨wrap64 ((wrap64 ((wrap64 (x1_1 + 1)) + 1)) + 1),(rd_T57 y429 x5_1).f3.f1,(rd_T57 y429 x5_1).f3.f2⟩:S31)⟩:S57):List (S57))).bind fun y430=>((some (y430.set (x5_1:Int).toNat (⟨(rd_T57 y430 x5_1).f0,(rd_T57 y430 x5_1).f1,(rd_T57 y430 x5_1).f2,(⟨(rd_T57 y430 x5_1).f3.f0,wrap64 ((wrap64 ((wrap64 ((wrap64 (x1_1 + 1)) + 1)) + 1)) + 1),(rd_T57 y430 x5_1).f3.f2⟩:S31)⟩:S57):List (S57))).bind fun y431=>(laws_markKidS.l0 k1 (y431.set (x5_1:Int).toNat (⟨(rd_T57 y431 x5_1).f0,(rd_T57 y431 x5_1).f1,(rd_T57 y431 x5_1).f2,(⟨(rd_T57 y431 x5_1).f3.f0,(rd_T57 y431 x5_1).f3.f1,wrap64 ((wrap64 ((wrap64 ((wrap64 ((wrap64 (x1_1 + 1)) + 1)) + 1)) + 1)) + 1)⟩:S31)⟩:S57)) (wrap64 ((wrap64 ((wrap64 ((wrap64 ((wrap64 ((wrap64 (x1_1 + 1)) + 1)) + 1)) + 1)) + 1)) + 1)) (wrap64 (x5_1 + 1)))))))=some (r1,r2):=by first|(rw [hy427];with_reducible exact H)|(have H2_:=(Option.bind_some _ _).symm.trans H;rw [hy427];with_reducible exact H2_)|(have H2_:=(Option.bind_some _ _).symm.trans H;with_reducible exact H2_)|with_reducible exact H|(rw [hy427];exact H)|exact H
     have Ny427:=D hy427;clear hy427;obtain ⟨y428,hy428⟩:∃ y_:List (S57),y_=(y427.set (x5_1:Int).toNat (⟨(rd_T57 y427 x5_1).f0,wrap64 (x1_1 + 1),(rd_T57 y427 x5_1).f2,(⟨(rd_T57 y427 x5_1).f3.f0,(rd_T57 y427 x5_1).f3.f1,(rd_T57 y427 x5_1).f3.f2⟩:S31)⟩:S57)):=⟨_,rfl⟩
     replace H:((some (y428.set (x5_1:Int).toNat (⟨(rd_T57 y428 x5_1).f0,(rd_T57 y428 x5_1).f1,((Int.tmod (wrap64 ((wrap64 (x1_1 + 1)) + 1)) 3) == 0),(⟨(rd_T57 y428 x5_1).f3.f0,(rd_T57 y428 x5_1).f3.f1,(rd_T57 y428 x5_1).f3.f2⟩:S31)⟩:S57):List (S57))).bind fun y429=>((some (y429.set (x5_1:Int).toNat (⟨(rd_T57 y429 x5_1).f0,(rd_T57 y429 x5_1).f1,(rd_T57 y429 x5_1).f2,(⟨wrap64 ((wrap64 ((wrap64 (x1_1 + 1)) + 1)) + 1),(rd_T57 y429 x5_1).f3.f1,(rd_T57 y429 x5_1).f3.f2⟩:S31)⟩:S57):List (S57))).bind fun y430=>((some (y430.set (x5_1:Int).toNat (⟨(rd_T57 y430 x5_1).f0,(rd_T57 y430 x5_1).f1,(rd_T57 y430 x5_1).f2,(⟨(rd_T57 y430 x5_1).f3.f0,wrap64 ((wrap64 ((wrap64 ((wrap64 (x1_1 + 1)) + 1)) + 1)) + 1),(rd_T57 y430 x5_1).f3.f2⟩:S31)⟩:S57):List (S57))).bind fun y431=>(laws_markKidS.l0 k1 (y431.set (x5_1:Int).toNat (⟨(rd_T57 y431 x5_1).f0,(rd_T57 y431 x5_1).f1,(rd_T57 y431 x5_1).f2,(⟨(rd_T57 y431 x5_1).f3.f0,(rd_T57 y431 x5_1).f3.f1,wrap64 ((wrap64 ((wrap64 ((wrap64 ((wrap64 (x1_1 + 1)) + 1)) + 1)) + 1)) + 1)⟩:S31)⟩:S57)) (wrap64 ((wrap64 ((wrap64 ((wrap64 ((wrap64 ((wrap64 (x1_1 + 1)) + 1)) + 1)) + 1)) + 1)) + 1)) (wrap64 (x5_1 + 1))))))=some (r1,r2):=by first|(rw [hy428];with_reducible exact H)|(have H2_:=(Option.bind_some _ _).symm.trans H;rw [hy428];with_reducible exact H2_)|(have H2_:=(Option.bind_some _ _).symm.trans H;with_reducible exact H2_)|with_reducible exact H|(rw [hy428];exact H)|exact H
     have Ny428:=D hy428;clear hy428;obtain ⟨y429,hy429⟩:∃ y_:List (S57),y_=(y428.set (x5_1:Int).toNat (⟨(rd_T57 y428 x5_1).f0,(rd_T57 y428 x5_1).f1,((Int.tmod (wrap64 ((wrap64 (x1_1 + 1)) + 1)) 3) == 0),(⟨(rd_T57 y428 x5_1).f3.f0,(rd_T57 y428 x5_1).f3.f1,(rd_T57 y428 x5_1).f3.f2⟩:S31)⟩:S57)):=⟨_,rfl⟩
     replace H:((some (y429.set (x5_1:Int).toNat (⟨(rd_T57 y429 x5_1).f0,(rd_T57 y429 x5_1).f1,(rd_T57 y429 x5_1).f2,(⟨wrap64 ((wrap64 ((wrap64 (x1_1 + 1)) + 1)) + 1),(rd_T57 y429 x5_1).f3.f1,(rd_T57 y429 x5_1).f3.f2⟩:S31)⟩:S57):List (S57))).bind fun y430=>((some (y430.set (x5_1:Int).toNat (⟨(rd_T57 y430 x5_1).f0,(rd_T57 y430 x5_1).f1,(rd_T57 y430 x5_1).f2,(⟨(rd_T57 y430 x5_1).f3.f0,wrap64 ((wrap64 ((wrap64 ((wrap64 (x1_1 + 1)) + 1)) + 1)) + 1),(rd_T57 y430 x5_1).f3.f2⟩:S31)⟩:S57):List (S57))).bind fun y431=>(laws_markKidS.l0 k1 (y431.set (x5_1:Int).toNat (⟨(rd_T57 y431 x5_1).f0,(rd_T57 y431 x5_1).f1,(rd_T57 y431 x5_1).f2,(⟨(rd_T57 y431 x5_1).f3.f0,(rd_T57 y431 x5_1).f3.f1,wrap64 ((wrap64 ((wrap64 ((wrap64 ((wrap64 (x1_1 + 1)) + 1)) + 1)) + 1)) + 1)⟩:S31)⟩:S57)) (wrap64 ((wrap64 ((wrap64 ((wrap64 ((wrap64 ((wrap64 (x1_1 + 1)) + 1)) + 1)) + 1)) + 1)) + 1)) (wrap64 (x5_1 + 1)))))=some (r1,r2):=by first|(rw [hy429];with_reducible exact H)|(have H2_:=(Option.bind_some _ _).symm.trans H;rw [hy429];with_reducible exact H2_)|(have H2_:=(Option.bind_some _ _).symm.trans H;with_reducible exact H2_)|with_reducible exact H|(rw [hy429];exact H)|exact H
     have Ny429:=D hy429;clear hy429;obtain ⟨y430,hy430⟩:∃ y_:List (S57),y_=(y429.set (x5_1:Int).toNat (⟨(rd_T57 y429 x5_1).f0,(rd_T57 y429 x5_1).f1,(rd_T57 y429 x5_1).f2,(⟨wrap64 ((wrap64 ((wrap64 (x1_1 + 1)) + 1)) + 1),(rd_T57 y429 x5_1).f3.f1,(rd_T57 y429 x5_1).f3.f2⟩:S31)⟩:S57)):=⟨_,rfl⟩
     replace H:((some (y430.set (x5_1:Int).toNat (⟨(rd_T57 y430 x5_1).f0,(rd_T57 y430 x5_1).f1,(rd_T57 y430 x5_1).f2,(⟨(rd_T57 y430 x5_1).f3.f0,wrap64 ((wrap64 ((wrap64 ((wrap64 (x1_1 + 1)) + 1)) + 1)) + 1),(rd_T57 y430 x5_1).f3.f2⟩:S31)⟩:S57):List (S57))).bind fun y431=>(laws_markKidS.l0 k1 (y431.set (x5_1:Int).toNat (⟨(rd_T57 y431 x5_1).f0,(rd_T57 y431 x5_1).f1,(rd_T57 y431 x5_1).f2,(⟨(rd_T57 y431 x5_1).f3.f0,(rd_T57 y431 x5_1).f3.f1,wrap64 ((wrap64 ((wrap64 ((wrap64 ((wrap64 (x1_1 + 1)) + 1)) + 1)) + 1)) + 1)⟩:S31)⟩:S57)) (wrap64 ((wrap64 ((wrap64 ((wrap64 ((wrap64 ((wrap64 (x1_1 + 1)) + 1)) + 1)) + 1)) + 1)) + 1)) (wrap64 (x5_1 + 1))))=some (r1,r2):=by first|(rw [hy430];with_reducible exact H)|(have H2_:=(Option.bind_some _ _).symm.trans H;rw [hy430];with_reducible exact H2_)|(have H2_:=(Option.bind_some _ _).symm.trans H;with_reducible exact H2_)|with_reducible exact H|(rw [hy430];exact H)|exact H
     have Ny430:=D hy430;clear hy430;obtain ⟨y431,hy431⟩:∃ y_:List (S57),y_=(y430.set (x5_1:Int).toNat (⟨(rd_T57 y430 x5_1).f0,(rd_T57 y430 x5_1).f1,(rd_T57 y430 x5_1).f2,(⟨(rd_T57 y430 x5_1).f3.f0,wrap64 ((wrap64 ((wrap64 ((wrap64 (x1_1 + 1)) + 1)) + 1)) + 1),(rd_T57 y430 x5_1).f3.f2⟩:S31)⟩:S57)):=⟨_,rfl⟩
     replace H:(laws_markKidS.l0 k1 (y431.set (x5_1:Int).toNat (⟨(rd_T57 y431 x5_1).f0,(rd_T57 y431 x5_1).f1,(rd_T57 y431 x5_1).f2,(⟨(rd_T57 y431 x5_1).f3.f0,(rd_T57 y431 x5_1).f3.f1,wrap64 ((wrap64 ((wrap64 ((wrap64 ((wrap64 (x1_1 + 1)) + 1)) + 1)) + 1)) + 1)⟩:S31)⟩:S57)) (wrap64 ((wrap64 ((wrap64 ((wrap64 ((wrap64 ((wrap64 (x1_1 + 1)) + 1)) + 1)) + 1)) + 1)) + 1)) (wrap64 (x5_1 + 1)))=some (r1,r2):=by first|(rw [hy431];with_reducible exact H)|(have H2_:=(Option.bind_some _ _).symm.trans H;rw [hy431];with_reducible exact H2_)|(have H2_:=(Option.bind_some _ _).symm.trans H;with_reducible exact H2_)|with_reducible exact H|(rw [hy431];exact H)|exact H
     have Ny431:=D hy431;clear hy431;obtain ⟨y432,hy432⟩:∃ y_:List (S57),y_=(y431.set (x5_1:Int).toNat (⟨(rd_T57 y431 x5_1).f0,(rd_T57 y431 x5_1).f1,(rd_T57 y431 x5_1).f2,(⟨(rd_T57 y431 x5_1).f3.f0,(rd_T57 y431 x5_1).f3.f1,wrap64 ((wrap64 ((wrap64 ((wrap64 ((wrap64 (x1_1 + 1)) + 1)) + 1)) + 1)) + 1)⟩:S31)⟩:S57)):=⟨_,rfl⟩
     replace H:(laws_markKidS.l0 k1 y432 (wrap64 ((wrap64 ((wrap64 ((wrap64 ((wrap64 ((wrap64 (x1_1 + 1)) + 1)) + 1)) + 1)) + 1)) + 1)) (wrap64 (x5_1 + 1)))=some (r1,r2):=by first|(rw [hy432];with_reducible exact H)|(have H2_:=(Option.bind_some _ _).symm.trans H;rw [hy432];with_reducible exact H2_)|(have H2_:=(Option.bind_some _ _).symm.trans H;with_reducible exact H2_)|with_reducible exact H|(rw [hy432];exact H)|exact H
     have Ny432:=D hy432;clear hy432;have H':=D H;clear H;obtain ⟨Ua,Ka,eo11⟩:=Kd.R_slice Ja.out;subst eo11;have p5:0≤(x5_1:Int):=od_ Z43;have q5:(x5_1:Int) < ((x0_1.length:Int):Int):=od_ Z43;obtain ⟨go5,Xa,eo5,Ma,gl5,cl5,HG5⟩:=Kd.R_form Ja.out (by omega);(first|cases eo5|(injection eo5 with ea_ en_ ec_;(first|subst ea_|(injection ea_ with ea_;subst ea_));subst ec_;clear en_));have GB5:=D Ma;have GG5:=D HG5;clear Ma gl5 HG5;have HMgo5:=D (show (P0_ go5 ∨ w.heap.size≤go5) from (Ja.out.1 _ rfl));obtain ⟨ce5,hcl5,hM5,hcc5,hfr5⟩:=Kd.R_elem Ja.out z57 (x5_1:Int) p5 q5;obtain rfl:=k57_openM hM5;have hx5_0:wr.cell? ⟨go5,(x5_1:Int).toNat * 6,none⟩=some (I L ((rd_T57 x0_1 x5_1).f0)):=hcc5 0 _ rfl;have hx5_1:wr.cell? ⟨go5,(x5_1:Int).toNat * 6 + 1,none⟩=some (I L ((rd_T57 x0_1 x5_1).f1)):=hcc5 1 _ rfl;have hx5_2:wr.cell? ⟨go5,(x5_1:Int).toNat * 6 + 2,none⟩=some (.bool ((rd_T57 x0_1 x5_1).f2)):=hcc5 2 _ rfl;have hx5_3:wr.cell? ⟨go5,(x5_1:Int).toNat * 6 + 3,none⟩=some (I L ((rd_T57 x0_1 x5_1).f3.f0)):=hcc5 3 _ rfl;have hx5_4:wr.cell? ⟨go5,(x5_1:Int).toNat * 6 + 4,none⟩=some (I L ((rd_T57 x0_1 x5_1).f3.f1)):=hcc5 4 _ rfl;have hx5_5:wr.cell? ⟨go5,(x5_1:Int).toNat * 6 + 5,none⟩=some (I L ((rd_T57 x0_1 x5_1).f3.f2)):=hcc5 5 _ rfl;have hf5_0:wr.frozen? ⟨go5,(x5_1:Int).toNat * 6,none⟩=false:=hfr5 0;have hf5_1:wr.frozen? ⟨go5,(x5_1:Int).toNat * 6 + 1,none⟩=false:=hfr5 1;have hf5_2:wr.frozen? ⟨go5,(x5_1:Int).toNat * 6 + 2,none⟩=false:=hfr5 2;have hf5_3:wr.frozen? ⟨go5,(x5_1:Int).toNat * 6 + 3,none⟩=false:=hfr5 3;have hf5_4:wr.frozen? ⟨go5,(x5_1:Int).toNat * 6 + 4,none⟩=false:=hfr5 4;have hf5_5:wr.frozen? ⟨go5,(x5_1:Int).toNat * 6 + 5,none⟩=false:=hfr5 5;clear hcl5 hcc5 hfr5 hM5;replace p5:=eq_true p5;replace q5:=eq_true q5;have HX12:=D (show Kd.R k57 57 wr w0.heap.size (fun k_=>(P0_ k_ ∨ w.heap.size≤k_)) (Y (some ⟨go5,0,none⟩) x0_1.length Ka) x0_1 from (pR_ Ja.out));obtain ⟨ce12,hcl12,hM12,hcc12,hfr12⟩:=Kd.R_elem HX12.out z57 (x5_1:Int) (od_ Z43) (by have h_:(x5_1:Int) < ((x0_1.length:Int):Int):=od_ Z43;first|exact h_|(have e_:=(Kd.R_reads' Ja.out).1;omega)|simpa using h_);obtain rfl:=k57_openM hM12;have HP12:=Kd.R_seg HX12.out (x5_1:Int) (od_ Z43) (by have h_:(x5_1:Int) < ((x0_1.length:Int):Int):=od_ Z43;first|exact h_|(have e_:=(Kd.R_reads' Ja.out).1;omega)|simpa using h_) (seg:=[I L x1_1]) (j:=0) hcl12 hcc12 (show 1≤6 from by decide) (x':=(⟨x1_1,(rd_T57 x0_1 x5_1).f1,(rd_T57 x0_1 x5_1).f2,(⟨(rd_T57 x0_1 x5_1).f3.f0,(rd_T57 x0_1 x5_1).f3.f1,(rd_T57 x0_1 x5_1).f3.f2⟩:S31)⟩:S57)) (k57_mkM _ _ _ (⟨x1_1,(rd_T57 x0_1 x5_1).f1,(rd_T57 x0_1 x5_1).f2,(⟨(rd_T57 x0_1 x5_1).f3.f0,(rd_T57 x0_1 x5_1).f3.f1,(rd_T57 x0_1 x5_1).f3.f2⟩:S31)⟩:S57) ) (fun _ hk=>hk);have hx12_0:=hcc12 0 _ rfl;(try simp only [show (k57).sz=6 from rfl,Nat.mul_one,Nat.add_zero] at hx12_0);have hf12_0:=hfr12 0;(try simp only [show (k57).sz=6 from rfl,Nat.mul_one,Nat.add_zero] at hf12_0);clear hcl12 hcc12 hfr12 hM12
     go_wp2_with (first|((with_reducible refine gate_store (t:=3) (p:=16) rfl ?_);refine store_event (t:=3) (p:=16) (v:=?vo_w13) (w1:=(wr.setCell ⟨go5,(x5_1:Int).toNat * 6,none⟩ (I L x1_1))) ?hg ?ho ?hn ?hr ?_;(case ho=>rfl);(case hg=>rfl);(case hn=>rfl);(case hr=>first|(go_simp;done)|(go_simp;rfl));intro w13 hw;have hg:wr.grownBy w13 (some go5):=Z45;have hp_:Kd.R k57 57 w13 w0.heap.size (fun k_=>(P0_ k_ ∨ w.heap.size≤k_)) (Y (some ⟨go5,0,none⟩) x0_1.length Ka) y427:=(by rw [hw,Ny427.out];exact HP12.1);clear HP12;have n_:=an_ (hp_)<|an_ ((by rw [hw];exact below_set (HB.out) GB5.out:Below w0.heap.size w0 w13))<|D (Kept.of_grown (S:=(fun k_=>P0_ k_)) hg Z13 (fun k_ e_=>(Ja.out.1 k_ e_)));clear Ja HB HK;obtain ⟨Ja,HB,HK⟩:=n_;clear hg hw hp_;have p6:0≤(x5_1:Int):=od_ Z43;have q6:(x5_1:Int) < ((x0_1.length:Int):Int):=od_ Z43;obtain ⟨ce6,hcl6,hM6,hcc6,hfr6⟩:=Kd.R_elem Ja.out z57 (x5_1:Int) p6 q6;obtain rfl:=k57_openM hM6;have hx6_0:w13.cell? ⟨go5,(x5_1:Int).toNat * 6,none⟩=some (I L ((rd_T57 y427 x5_1).f0)):=hcc6 0 _ rfl;have hx6_1:w13.cell? ⟨go5,(x5_1:Int).toNat * 6 + 1,none⟩=some (I L ((rd_T57 y427 x5_1).f1)):=hcc6 1 _ rfl;have hx6_2:w13.cell? ⟨go5,(x5_1:Int).toNat * 6 + 2,none⟩=some (.bool ((rd_T57 y427 x5_1).f2)):=hcc6 2 _ rfl;have hx6_3:w13.cell? ⟨go5,(x5_1:Int).toNat * 6 + 3,none⟩=some (I L ((rd_T57 y427 x5_1).f3.f0)):=hcc6 3 _ rfl;have hx6_4:w13.cell? ⟨go5,(x5_1:Int).toNat * 6 + 4,none⟩=some (I L ((rd_T57 y427 x5_1).f3.f1)):=hcc6 4 _ rfl;have hx6_5:w13.cell? ⟨go5,(x5_1:Int).toNat * 6 + 5,none⟩=some (I L ((rd_T57 y427 x5_1).f3.f2)):=hcc6 5 _ rfl;have hf6_0:w13.frozen? ⟨go5,(x5_1:Int).toNat * 6,none⟩=false:=hfr6 0;have hf6_1:w13.frozen? ⟨go5,(x5_1:Int).toNat * 6 + 1,none⟩=false:=hfr6 1;have hf6_2:w13.frozen? ⟨go5,(x5_1:Int).toNat * 6 + 2,none⟩=false:=hfr6 2;have hf6_3:w13.frozen? ⟨go5,(x5_1:Int).toNat * 6 + 3,none⟩=false:=hfr6 3;have hf6_4:w13.frozen? ⟨go5,(x5_1:Int).toNat * 6 + 4,none⟩=false:=hfr6 4;have hf6_5:w13.frozen? ⟨go5,(x5_1:Int).toNat * 6 + 5,none⟩=false:=hfr6 5;clear hcl6 hcc6 hfr6 hM6;replace p6:=eq_true p6;replace q6:=eq_true q6;have HX14:=D (show Kd.R k57 57 w13 w0.heap.size (fun k_=>(P0_ k_ ∨ w.heap.size≤k_)) (Y (some ⟨go5,0,none⟩) x0_1.length Ka) y427 from (pR_ Ja.out));obtain ⟨ce14,hcl14,hM14,hcc14,hfr14⟩:=Kd.R_elem HX14.out z57 (x5_1:Int) (od_ Z43) (by have h_:(x5_1:Int) < ((x0_1.length:Int):Int):=od_ Z43;first|exact h_|(have e_:=(Kd.R_reads' Ja.out).1;omega)|simpa using h_);obtain rfl:=k57_openM hM14;have HP14:=Kd.R_seg HX14.out (x5_1:Int) (od_ Z43) (by have h_:(x5_1:Int) < ((x0_1.length:Int):Int):=od_ Z43;first|exact h_|(have e_:=(Kd.R_reads' Ja.out).1;omega)|simpa using h_) (seg:=[I L (wrap64 (x1_1 + 1))]) (j:=1) hcl14 hcc14 (show 2≤6 from by decide) (x':=(⟨(rd_T57 y427 x5_1).f0,wrap64 (x1_1 + 1),(rd_T57 y427 x5_1).f2,(⟨(rd_T57 y427 x5_1).f3.f0,(rd_T57 y427 x5_1).f3.f1,(rd_T57 y427 x5_1).f3.f2⟩:S31)⟩:S57)) (k57_mkM _ _ _ (⟨(rd_T57 y427 x5_1).f0,wrap64 (x1_1 + 1),(rd_T57 y427 x5_1).f2,(⟨(rd_T57 y427 x5_1).f3.f0,(rd_T57 y427 x5_1).f3.f1,(rd_T57 y427 x5_1).f3.f2⟩:S31)⟩:S57) ) (fun _ hk=>hk);have hx14_1:=hcc14 1 _ rfl;(try simp only [show (k57).sz=6 from rfl,Nat.mul_one,Nat.add_zero] at hx14_1);have hf14_1:=hfr14 1;(try simp only [show (k57).sz=6 from rfl,Nat.mul_one,Nat.add_zero] at hf14_1);clear hcl14 hcc14 hfr14 hM14)|((with_reducible refine gate_store (t:=3) (p:=23) rfl ?_);refine store_event (t:=3) (p:=23) (v:=?vo_w15) (w1:=(w13.setCell ⟨go5,(x5_1:Int).toNat * 6 + 1,none⟩ (I L (wrap64 (x1_1 + 1))))) ?hg ?ho ?hn ?hr ?_;(case ho=>rfl);(case hg=>rfl);(case hn=>rfl);(case hr=>first|(go_simp;done)|(go_simp;rfl));intro w15 hw;have hg:w13.grownBy w15 (some go5):=(by rw [hw];exact HP14.2);have hp_:Kd.R k57 57 w15 w0.heap.size (fun k_=>(P0_ k_ ∨ w.heap.size≤k_)) (Y (some ⟨go5,0,none⟩) x0_1.length Ka) y428:=(by rw [hw,Ny428.out];exact HP14.1);clear HP14;have n_:=an_ (hp_)<|an_ ((by rw [hw];exact below_set (HB.out) GB5.out:Below w0.heap.size w0 w15))<|D (Kept.of_grown (S:=(fun k_=>P0_ k_)) hg Z13 (fun k_ e_=>(Ja.out.1 k_ e_)));clear Ja HB HK;obtain ⟨Ja,HB,HK⟩:=n_;clear hg hw hp_;have p7:0≤(x5_1:Int):=od_ Z43;have q7:(x5_1:Int) < ((x0_1.length:Int):Int):=od_ Z43;obtain ⟨ce7,hcl7,hM7,hcc7,hfr7⟩:=Kd.R_elem Ja.out z57 (x5_1:Int) p7 q7;obtain rfl:=k57_openM hM7;have hx7_0:w15.cell? ⟨go5,(x5_1:Int).toNat * 6,none⟩=some (I L ((rd_T57 y428 x5_1).f0)):=hcc7 0 _ rfl;have hx7_1:w15.cell? ⟨go5,(x5_1:Int).toNat * 6 + 1,none⟩=some (I L ((rd_T57 y428 x5_1).f1)):=hcc7 1 _ rfl;have hx7_2:w15.cell? ⟨go5,(x5_1:Int).toNat * 6 + 2,none⟩=some (.bool ((rd_T57 y428 x5_1).f2)):=hcc7 2 _ rfl;have hx7_3:w15.cell? ⟨go5,(x5_1:Int).toNat * 6 + 3,none⟩=some (I L ((rd_T57 y428 x5_1).f3.f0)):=hcc7 3 _ rfl;have hx7_4:w15.cell? ⟨go5,(x5_1:Int).toNat * 6 + 4,none⟩=some (I L ((rd_T57 y428 x5_1).f3.f1)):=hcc7 4 _ rfl;have hx7_5:w15.cell? ⟨go5,(x5_1:Int).toNat * 6 + 5,none⟩=some (I L ((rd_T57 y428 x5_1).f3.f2)):=hcc7 5 _ rfl;have hf7_0:w15.frozen? ⟨go5,(x5_1:Int).toNat * 6,none⟩=false:=hfr7 0;have hf7_1:w15.frozen? ⟨go5,(x5_1:Int).toNat * 6 + 1,none⟩=false:=hfr7 1;have hf7_2:w15.frozen? ⟨go5,(x5_1:Int).toNat * 6 + 2,none⟩=false:=hfr7 2;have hf7_3:w15.frozen? ⟨go5,(x5_1:Int).toNat * 6 + 3,none⟩=false:=hfr7 3;have hf7_4:w15.frozen? ⟨go5,(x5_1:Int).toNat * 6 + 4,none⟩=false:=hfr7 4;have hf7_5:w15.frozen? ⟨go5,(x5_1:Int).toNat * 6 + 5,none⟩=false:=hfr7 5;clear hcl7 hcc7 hfr7 hM7;replace p7:=eq_true p7;replace q7:=eq_true q7;have HX16:=D (show Kd.R k57 57 w15 w0.heap.size (fun k_=>(P0_ k_ ∨ w.heap.size≤k_)) (Y (some ⟨go5,0,none⟩) x0_1.length Ka) y428 from (pR_ Ja.out));obtain ⟨ce16,hcl16,hM16,hcc16,hfr16⟩:=Kd.R_elem HX16.out z57 (x5_1:Int) (od_ Z43) (by have h_:(x5_1:Int) < ((x0_1.length:Int):Int):=od_ Z43;first|exact h_|(have e_:=(Kd.R_reads' Ja.out).1;omega)|simpa using h_);obtain rfl:=k57_openM hM16;have HP16:=Kd.R_seg HX16.out (x5_1:Int) (od_ Z43) (by have h_:(x5_1:Int) < ((x0_1.length:Int):Int):=od_ Z43;first|exact h_|(have e_:=(Kd.R_reads' Ja.out).1;omega)|simpa using h_) (seg:=[.bool ((Int.tmod (wrap64 ((wrap64 (x1_1 + 1)) + 1)) 3) == 0)]) (j:=2) hcl16 hcc16 (show 3≤6 from by decide) (x':=(⟨(rd_T57 y428 x5_1).f0,(rd_T57 y428 x5_1).f1,((Int.tmod (wrap64 ((wrap64 (x1_1 + 1)) + 1)) 3) == 0),(⟨(rd_T57 y428 x5_1).f3.f0,(rd_T57 y428 x5_1).f3.f1,(rd_T57 y428 x5_1).f3.f2⟩:S31)⟩:S57)) (k57_mkM _ _ _ (⟨(rd_T57 y428 x5_1).f0,(rd_T57 y428 x5_1).f1,((Int.tmod (wrap64 ((wrap64 (x1_1 + 1)) + 1)) 3) == 0),(⟨(rd_T57 y428 x5_1).f3.f0,(rd_T57 y428 x5_1).f3.f1,(rd_T57 y428 x5_1).f3.f2⟩:S31)⟩:S57) ) (fun _ hk=>hk);have hx16_2:=hcc16 2 _ rfl;(try simp only [show (k57).sz=6 from rfl,Nat.mul_one,Nat.add_zero] at hx16_2);have hf16_2:=hfr16 2;(try simp only [show (k57).sz=6 from rfl,Nat.mul_one,Nat.add_zero] at hf16_2);clear hcl16 hcc16 hfr16 hM16)|((with_reducible refine gate_store (t:=4) (p:=32) rfl ?_);refine store_event (t:=4) (p:=32) (v:=?vo_w17) (w1:=(w15.setCell ⟨go5,(x5_1:Int).toNat * 6 + 2,none⟩ (.bool ((Int.tmod (wrap64 ((wrap64 (x1_1 + 1)) + 1)) 3) == 0)))) ?hg ?ho ?hn ?hr ?_;(case ho=>rfl);(case hg=>rfl);(case hn=>rfl);(case hr=>first|(go_simp;done)|(go_simp;rfl));intro w17 hw;have hg:w15.grownBy w17 (some go5):=(by rw [hw];exact HP16.2);have hp_:Kd.R k57 57 w17 w0.heap.size (fun k_=>(P0_ k_ ∨ w.heap.size≤k_)) (Y (some ⟨go5,0,none⟩) x0_1.length Ka) y429:=(by rw [hw,Ny429.out];exact HP16.1);clear HP16;have n_:=an_ (hp_)<|an_ ((by rw [hw];exact below_set (HB.out) GB5.out:Below w0.heap.size w0 w17))<|D (Kept.of_grown (S:=(fun k_=>P0_ k_)) hg Z13 (fun k_ e_=>(Ja.out.1 k_ e_)));clear Ja HB HK;obtain ⟨Ja,HB,HK⟩:=n_;clear hg hw hp_;have p8:0≤(x5_1:Int):=od_ Z43;have q8:(x5_1:Int) < ((x0_1.length:Int):Int):=od_ Z43;obtain ⟨ce8,hcl8,hM8,hcc8,hfr8⟩:=Kd.R_elem Ja.out z57 (x5_1:Int) p8 q8;obtain rfl:=k57_openM hM8;have hx8_0:w17.cell? ⟨go5,(x5_1:Int).toNat * 6,none⟩=some (I L ((rd_T57 y429 x5_1).f0)):=hcc8 0 _ rfl;have hx8_1:w17.cell? ⟨go5,(x5_1:Int).toNat * 6 + 1,none⟩=some (I L ((rd_T57 y429 x5_1).f1)):=hcc8 1 _ rfl;have hx8_2:w17.cell? ⟨go5,(x5_1:Int).toNat * 6 + 2,none⟩=some (.bool ((rd_T57 y429 x5_1).f2)):=hcc8 2 _ rfl;have hx8_3:w17.cell? ⟨go5,(x5_1:Int).toNat * 6 + 3,none⟩=some (I L ((rd_T57 y429 x5_1).f3.f0)):=hcc8 3 _ rfl;have hx8_4:w17.cell? ⟨go5,(x5_1:Int).toNat * 6 + 4,none⟩=some (I L ((rd_T57 y429 x5_1).f3.f1)):=hcc8 4 _ rfl;have hx8_5:w17.cell? ⟨go5,(x5_1:Int).toNat * 6 + 5,none⟩=some (I L ((rd_T57 y429 x5_1).f3.f2)):=hcc8 5 _ rfl;have hf8_0:w17.frozen? ⟨go5,(x5_1:Int).toNat * 6,none⟩=false:=hfr8 0;have hf8_1:w17.frozen? ⟨go5,(x5_1:Int).toNat * 6 + 1,none⟩=false:=hfr8 1;have hf8_2:w17.frozen? ⟨go5,(x5_1:Int).toNat * 6 + 2,none⟩=false:=hfr8 2;have hf8_3:w17.frozen? ⟨go5,(x5_1:Int).toNat * 6 + 3,none⟩=false:=hfr8 3;have hf8_4:w17.frozen? ⟨go5,(x5_1:Int).toNat * 6 + 4,none⟩=false:=hfr8 4;have hf8_5:w17.frozen? ⟨go5,(x5_1:Int).toNat * 6 + 5,none⟩=false:=hfr8 5;clear hcl8 hcc8 hfr8 hM8;replace p8:=eq_true p8;replace q8:=eq_true q8;have HX18:=D (show Kd.R k57 57 w17 w0.heap.size (fun k_=>(P0_ k_ ∨ w.heap.size≤k_)) (Y (some ⟨go5,0,none⟩) x0_1.length Ka) y429 from (pR_ Ja.out));obtain ⟨ce18,hcl18,hM18,hcc18,hfr18⟩:=Kd.R_elem HX18.out z57 (x5_1:Int) (od_ Z43) (by have h_:(x5_1:Int) < ((x0_1.length:Int):Int):=od_ Z43;first|exact h_|(have e_:=(Kd.R_reads' Ja.out).1;omega)|simpa using h_);obtain rfl:=k57_openM hM18;have HP18:=Kd.R_seg HX18.out (x5_1:Int) (od_ Z43) (by have h_:(x5_1:Int) < ((x0_1.length:Int):Int):=od_ Z43;first|exact h_|(have e_:=(Kd.R_reads' Ja.out).1;omega)|simpa using h_) (seg:=[I L (wrap64 ((wrap64 ((wrap64 (x1_1 + 1)) + 1)) + 1))]) (j:=3) hcl18 hcc18 (show 4≤6 from by decide) (x':=(⟨(rd_T57 y429 x5_1).f0,(rd_T57 y429 x5_1).f1,(rd_T57 y429 x5_1).f2,(⟨wrap64 ((wrap64 ((wrap64 (x1_1 + 1)) + 1)) + 1),(rd_T57 y429 x5_1).f3.f1,(rd_T57 y429 x5_1).f3.f2⟩:S31)⟩:S57)) (k57_mkM _ _ _ (⟨(rd_T57 y429 x5_1).f0,(rd_T57 y429 x5_1).f1,(rd_T57 y429 x5_1).f2,(⟨wrap64 ((wrap64 ((wrap64 (x1_1 + 1)) + 1)) + 1),(rd_T57 y429 x5_1).f3.f1,(rd_T57 y429 x5_1).f3.f2⟩:S31)⟩:S57) ) (fun _ hk=>hk);have hx18_3:=hcc18 3 _ rfl;(try simp only [show (k57).sz=6 from rfl,Nat.mul_one,Nat.add_zero] at hx18_3);have hf18_3:=hfr18 3;(try simp only [show (k57).sz=6 from rfl,Nat.mul_one,Nat.add_zero] at hf18_3);clear hcl18 hcc18 hfr18 hM18)|((with_reducible refine gate_store (t:=3) (p:=40) rfl ?_);refine store_event (t:=3) (p:=40) (v:=?vo_w19) (w1:=(w17.setCell ⟨go5,(x5_1:Int).toNat * 6 + 3,none⟩ (I L (wrap64 ((wrap64 ((wrap64 (x1_1 + 1)) + 1)) + 1))))) ?hg ?ho ?hn ?hr ?_;(case ho=>rfl);(case hg=>rfl);(case hn=>rfl);(case hr=>first|(go_simp;done)|(go_simp;rfl));intro w19 hw;have hg:w17.grownBy w19 (some go5):=(by rw [hw];exact HP18.2);have hp_:Kd.R k57 57 w19 w0.heap.size (fun k_=>(P0_ k_ ∨ w.heap.size≤k_)) (Y (some ⟨go5,0,none⟩) x0_1.length Ka) y430:=(by rw [hw,Ny430.out];exact HP18.1);clear HP18;have n_:=an_ (hp_)<|an_ ((by rw [hw];exact below_set (HB.out) GB5.out:Below w0.heap.size w0 w19))<|D (Kept.of_grown (S:=(fun k_=>P0_ k_)) hg Z13 (fun k_ e_=>(Ja.out.1 k_ e_)));clear Ja HB HK;obtain ⟨Ja,HB,HK⟩:=n_;clear hg hw hp_;have p9:0≤(x5_1:Int):=od_ Z43;have q9:(x5_1:Int) < ((x0_1.length:Int):Int):=od_ Z43;obtain ⟨ce9,hcl9,hM9,hcc9,hfr9⟩:=Kd.R_elem Ja.out z57 (x5_1:Int) p9 q9;obtain rfl:=k57_openM hM9;have hx9_0:w19.cell? ⟨go5,(x5_1:Int).toNat * 6,none⟩=some (I L ((rd_T57 y430 x5_1).f0)):=hcc9 0 _ rfl;have hx9_1:w19.cell? ⟨go5,(x5_1:Int).toNat * 6 + 1,none⟩=some (I L ((rd_T57 y430 x5_1).f1)):=hcc9 1 _ rfl;have hx9_2:w19.cell? ⟨go5,(x5_1:Int).toNat * 6 + 2,none⟩=some (.bool ((rd_T57 y430 x5_1).f2)):=hcc9 2 _ rfl;have hx9_3:w19.cell? ⟨go5,(x5_1:Int).toNat * 6 + 3,none⟩=some (I L ((rd_T57 y430 x5_1).f3.f0)):=hcc9 3 _ rfl;have hx9_4:w19.cell? ⟨go5,(x5_1:Int).toNat * 6 + 4,none⟩=some (I L ((rd_T57 y430 x5_1).f3.f1)):=hcc9 4 _ rfl;have hx9_5:w19.cell? ⟨go5,(x5_1:Int).toNat * 6 + 5,none⟩=some (I L ((rd_T57 y430 x5_1).f3.f2)):=hcc9 5 _ rfl;have hf9_0:w19.frozen? ⟨go5,(x5_1:Int).toNat * 6,none⟩=false:=hfr9 0;have hf9_1:w19.frozen? ⟨go5,(x5_1:Int).toNat * 6 + 1,none⟩=false:=hfr9 1;have hf9_2:w19.frozen? ⟨go5,(x5_1:Int).toNat * 6 + 2,none⟩=false:=hfr9 2;have hf9_3:w19.frozen? ⟨go5,(x5_1:Int).toNat * 6 + 3,none⟩=false:=hfr9 3;have hf9_4:w19.frozen? ⟨go5,(x5_1:Int).toNat * 6 + 4,none⟩=false:=hfr9 4;have hf9_5:w19.frozen? ⟨go5,(x5_1:Int).toNat * 6 + 5,none⟩=false:=hfr9 5;clear hcl9 hcc9 hfr9 hM9;replace p9:=eq_true p9;replace q9:=eq_true q9;have HX20:=D (show Kd.R k57 57 w19 w0.heap.size (fun k_=>(P0_ k_ ∨ w.heap.size≤k_)) (Y (some ⟨go5,0,none⟩) x0_1.length Ka) y430 from (pR_ Ja.out));obtain ⟨ce20,hcl20,hM20,hcc20,hfr20⟩:=Kd.R_elem HX20.out z57 (x5_1:Int) (od_ Z43) (by have h_:(x5_1:Int) < ((x0_1.length:Int):Int):=od_ Z43;first|exact h_|(have e_:=(Kd.R_reads' Ja.out).1;omega)|simpa using h_);obtain rfl:=k57_openM hM20;have HP20:=Kd.R_seg HX20.out (x5_1:Int) (od_ Z43) (by have h_:(x5_1:Int) < ((x0_1.length:Int):Int):=od_ Z43;first|exact h_|(have e_:=(Kd.R_reads' Ja.out).1;omega)|simpa using h_) (seg:=[I L (wrap64 ((wrap64 ((wrap64 ((wrap64 (x1_1 + 1)) + 1)) + 1)) + 1))]) (j:=4) hcl20 hcc20 (show 5≤6 from by decide) (x':=(⟨(rd_T57 y430 x5_1).f0,(rd_T57 y430 x5_1).f1,(rd_T57 y430 x5_1).f2,(⟨(rd_T57 y430 x5_1).f3.f0,wrap64 ((wrap64 ((wrap64 ((wrap64 (x1_1 + 1)) + 1)) + 1)) + 1),(rd_T57 y430 x5_1).f3.f2⟩:S31)⟩:S57)) (k57_mkM _ _ _ (⟨(rd_T57 y430 x5_1).f0,(rd_T57 y430 x5_1).f1,(rd_T57 y430 x5_1).f2,(⟨(rd_T57 y430 x5_1).f3.f0,wrap64 ((wrap64 ((wrap64 ((wrap64 (x1_1 + 1)) + 1)) + 1)) + 1),(rd_T57 y430 x5_1).f3.f2⟩:S31)⟩:S57) ) (fun _ hk=>hk);have hx20_4:=hcc20 4 _ rfl;(try simp only [show (k57).sz=6 from rfl,Nat.mul_one,Nat.add_zero] at hx20_4);have hf20_4:=hfr20 4;(try simp only [show (k57).sz=6 from rfl,Nat.mul_one,Nat.add_zero] at hf20_4);clear hcl20 hcc20 hfr20 hM20)|((with_reducible refine gate_store (t:=3) (p:=48) rfl ?_);refine store_event (t:=3) (p:=48) (v:=?vo_w21) (w1:=(w19.setCell ⟨go5,(x5_1:Int).toNat * 6 + 4,none⟩ (I L (wrap64 ((wrap64 ((wrap64 ((wrap64 (x1_1 + 1)) + 1)) + 1)) + 1))))) ?hg ?ho ?hn ?hr ?_;(case ho=>rfl);(case hg=>rfl);(case hn=>rfl);(case hr=>first|(go_simp;done)|(go_simp;rfl));intro w21 hw;have hg:w19.grownBy w21 (some go5):=(by rw [hw];exact HP20.2);have hp_:Kd.R k57 57 w21 w0.heap.size (fun k_=>(P0_ k_ ∨ w.heap.size≤k_)) (Y (some ⟨go5,0,none⟩) x0_1.length Ka) y431:=(by rw [hw,Ny431.out];exact HP20.1);clear HP20;have n_:=an_ (hp_)<|an_ ((by rw [hw];exact below_set (HB.out) GB5.out:Below w0.heap.size w0 w21))<|D (Kept.of_grown (S:=(fun k_=>P0_ k_)) hg Z13 (fun k_ e_=>(Ja.out.1 k_ e_)));clear Ja HB HK;obtain ⟨Ja,HB,HK⟩:=n_;clear hg hw hp_;have p10:0≤(x5_1:Int):=od_ Z43;have q10:(x5_1:Int) < ((x0_1.length:Int):Int):=od_ Z43;obtain ⟨ce10,hcl10,hM10,hcc10,hfr10⟩:=Kd.R_elem Ja.out z57 (x5_1:Int) p10 q10;obtain rfl:=k57_openM hM10;have hx10_0:w21.cell? ⟨go5,(x5_1:Int).toNat * 6,none⟩=some (I L ((rd_T57 y431 x5_1).f0)):=hcc10 0 _ rfl;have hx10_1:w21.cell? ⟨go5,(x5_1:Int).toNat * 6 + 1,none⟩=some (I L ((rd_T57 y431 x5_1).f1)):=hcc10 1 _ rfl;have hx10_2:w21.cell? ⟨go5,(x5_1:Int).toNat * 6 + 2,none⟩=some (.bool ((rd_T57 y431 x5_1).f2)):=hcc10 2 _ rfl;have hx10_3:w21.cell? ⟨go5,(x5_1:Int).toNat * 6 + 3,none⟩=some (I L ((rd_T57 y431 x5_1).f3.f0)):=hcc10 3 _ rfl;have hx10_4:w21.cell? ⟨go5,(x5_1:Int).toNat * 6 + 4,none⟩=some (I L ((rd_T57 y431 x5_1).f3.f1)):=hcc10 4 _ rfl;have hx10_5:w21.cell? ⟨go5,(x5_1:Int).toNat * 6 + 5,none⟩=some (I L ((rd_T57 y431 x5_1).f3.f2)):=hcc10 5 _ rfl;have hf10_0:w21.frozen? ⟨go5,(x5_1:Int).toNat * 6,none⟩=false:=hfr10 0;have hf10_1:w21.frozen? ⟨go5,(x5_1:Int).toNat * 6 + 1,none⟩=false:=hfr10 1;have hf10_2:w21.frozen? ⟨go5,(x5_1:Int).toNat * 6 + 2,none⟩=false:=hfr10 2;have hf10_3:w21.frozen? ⟨go5,(x5_1:Int).toNat * 6 + 3,none⟩=false:=hfr10 3;have hf10_4:w21.frozen? ⟨go5,(x5_1:Int).toNat * 6 + 4,none⟩=false:=hfr10 4;have hf10_5:w21.frozen? ⟨go5,(x5_1:Int).toNat * 6 + 5,none⟩=false:=hfr10 5;clear hcl10 hcc10 hfr10 hM10;replace p10:=eq_true p10;replace q10:=eq_true q10;have HX22:=D (show Kd.R k57 57 w21 w0.heap.size (fun k_=>(P0_ k_ ∨ w.heap.size≤k_)) (Y (some ⟨go5,0,none⟩) x0_1.length Ka) y431 from (pR_ Ja.out));obtain ⟨ce22,hcl22,hM22,hcc22,hfr22⟩:=Kd.R_elem HX22.out z57 (x5_1:Int) (od_ Z43) (by have h_:(x5_1:Int) < ((x0_1.length:Int):Int):=od_ Z43;first|exact h_|(have e_:=(Kd.R_reads' Ja.out).1;omega)|simpa using h_);obtain rfl:=k57_openM hM22;have HP22:=Kd.R_seg HX22.out (x5_1:Int) (od_ Z43) (by have h_:(x5_1:Int) < ((x0_1.length:Int):Int):=od_ Z43;first|exact h_|(have e_:=(Kd.R_reads' Ja.out).1;omega)|simpa using h_) (seg:=[I L (wrap64 ((wrap64 ((wrap64 ((wrap64 ((wrap64 (x1_1 + 1)) + 1)) + 1)) + 1)) + 1))]) (j:=5) hcl22 hcc22 (show 6≤6 from by decide) (x':=(⟨(rd_T57 y431 x5_1).f0,(rd_T57 y431 x5_1).f1,(rd_T57 y431 x5_1).f2,(⟨(rd_T57 y431 x5_1).f3.f0,(rd_T57 y431 x5_1).f3.f1,wrap64 ((wrap64 ((wrap64 ((wrap64 ((wrap64 (x1_1 + 1)) + 1)) + 1)) + 1)) + 1)⟩:S31)⟩:S57)) (k57_mkM _ _ _ (⟨(rd_T57 y431 x5_1).f0,(rd_T57 y431 x5_1).f1,(rd_T57 y431 x5_1).f2,(⟨(rd_T57 y431 x5_1).f3.f0,(rd_T57 y431 x5_1).f3.f1,wrap64 ((wrap64 ((wrap64 ((wrap64 ((wrap64 (x1_1 + 1)) + 1)) + 1)) + 1)) + 1)⟩:S31)⟩:S57) ) (fun _ hk=>hk);have hx22_5:=hcc22 5 _ rfl;(try simp only [show (k57).sz=6 from rfl,Nat.mul_one,Nat.add_zero] at hx22_5);have hf22_5:=hfr22 5;(try simp only [show (k57).sz=6 from rfl,Nat.mul_one,Nat.add_zero] at hf22_5);clear hcl22 hcc22 hfr22 hM22)|((with_reducible refine gate_store (t:=3) (p:=56) rfl ?_);refine store_event (t:=3) (p:=56) (v:=?vo_w23) (w1:=(w21.setCell ⟨go5,(x5_1:Int).toNat * 6 + 5,none⟩ (I L (wrap64 ((wrap64 ((wrap64 ((wrap64 ((wrap64 (x1_1 + 1)) + 1)) + 1)) + 1)) + 1))))) ?hg ?ho ?hn ?hr ?_;(case ho=>rfl);(case hg=>rfl);(case hn=>rfl);(case hr=>first|(go_simp;done)|(go_simp;rfl));intro w23 hw;have hg:w21.grownBy w23 (some go5):=(by rw [hw];exact HP22.2);have hp_:Kd.R k57 57 w23 w0.heap.size (fun k_=>(P0_ k_ ∨ w.heap.size≤k_)) (Y (some ⟨go5,0,none⟩) x0_1.length Ka) y432:=(by rw [hw,Ny432.out];exact HP22.1);clear HP22;have n_:=an_ (hp_)<|an_ ((by rw [hw];exact below_set (HB.out) GB5.out:Below w0.heap.size w0 w23))<|D (Kept.of_grown (S:=(fun k_=>P0_ k_)) hg Z13 (fun k_ e_=>(Ja.out.1 k_ e_)));clear Ja HB HK;obtain ⟨Ja,HB,HK⟩:=n_;clear hg hw hp_))
     go_roundg k1
     case measure => have := HK1.out; omega
     case rel=>exact ⟨(y432),(wrap64 ((wrap64 ((wrap64 ((wrap64 ((wrap64 ((wrap64 (x1_1 + 1)) + 1)) + 1)) + 1)) + 1)) + 1)),(wrap64 (x5_1 + 1)),Z44,Z44,H',⟨by have:=HK1.out;omega⟩,⟨pR_ Ja.out⟩,⟨by repeat (first|(with_reducible first|exact HK.out|apply Kept.alloc|apply Kept.drewN|apply Kept.drew)|exact HK.out)⟩,⟨pB_ HB.out⟩⟩
    ·rw [if_neg c4] at H
     exact absurd H (by simp)
   ·rw [if_neg c3] at H
    have c3b0:decide (x5_1 < (x0_1.length:Int))=false:=decide_eq_false c3;clear c3;simp only [Option.some.injEq,Prod.mk.injEq] at H;obtain ⟨rfl,rfl⟩:=H;obtain ⟨Jb,Kb,eo24⟩:=Kd.R_slice Ja.out;subst eo24
    go_wp2
    go_ret;exact ⟨er_,by (with_reducible repeat (first|apply Kd.R_alloc|apply Kd.R_drewN|apply Kd.R_drew));exact Ja.out,pB_ HB.out,by repeat (first|(with_reducible first|exact HK.out|apply Kept.alloc|apply Kept.drewN|apply Kept.drew)|exact HK.out)⟩

/-! ### laws_markFair: function 26 -/
def laws_markFair.f (k : Nat) (a0_0 a0_1 a0_2 a0_3 : Int) (l0_4 : List (S57)) (a1 : Int) : Option (Int × (List (S57))) := (laws_markKidS.f k l0_4 a1).bind fun bt434 => (some (bt434.1, bt434.2))
set_option maxHeartbeats 8000000 in
set_option maxRecDepth 100000 in
theorem laws_markFair.calls (k : Nat) (a0_0 a0_1 a0_2 a0_3 : Int) (P0_4_ : Nat → Prop) (u9000_ : Value) (l0_4 : List (S57)) (a1 r1 : Int) (r2 : List (S57)) (w0 w : World) (hB : Below w0.heap.size w0 w) (ho0_4 : Kd.R k57 57 w w0.heap.size P0_4_ u9000_ l0_4) (h : laws_markFair.f k a0_0 a0_1 a0_2 a0_3 l0_4 a1 = some (r1, r2)) :
  Calls Try.prog 26 #[.agg #[I L a0_0,I L a0_1,I L a0_2,I L a0_3,u9000_],I L a1] w fun e w'=>e=.returned (I L r1)∧Kd.R k57 57 w' w0.heap.size (fun k_=>(P0_4_ k_ ∨ w.heap.size≤k_)) u9000_ r2∧Below w0.heap.size w0 w'∧Kept w w' (fun k_=>P0_4_ k_):=by
 have hu34 := Try.underlying34
 have HO0_4 := D (show Kd.R k57 57 w w0.heap.size (fun k_ => (P0_4_ k_ ∨ w.heap.size ≤ k_)) u9000_ l0_4 from Kd.R_mono ho0_4 (fun k_ hk => (.inl hk)))
 have HK := D (Kept.refl w (fun k_ => P0_4_ k_))
 have HW0 := D hB.size
 have HB := D hB
 clear hB
 have H : ((laws_markKidS.f k l0_4 a1).bind fun bt434 => (some (bt434.1, bt434.2))) = some (r1, r2) := h
 clear h
 obtain ⟨⟨t434, t435⟩, A30, H⟩ := bs_.mp H
 (try dsimp only at H)
 have A3 := D A30
 clear A30
 simp only [Option.some.injEq, Prod.mk.injEq] at H
 obtain ⟨rfl, rfl⟩ := H
 obtain ⟨Ao4, co4, eo4⟩ := Kd.R_slice HO0_4.out
 subst eo4
 go_enter Try.func26, Try.ntmps26
 go_wp2_with (first|((with_reducible refine gate_dst (N:=2) rfl ?_);refine bx_ (N:=2) (cs:=#[I L a0_0,I L a0_1,I L a0_2,I L a0_3,Y Ao4 l0_4.length co4]) (t:=34) ?_;intro gb433 hg w5 hbox hb;have n_:=an_ (Kd.R_below (pR_ HO0_4.out) hb)<|an_ (Kept.below (S:=(fun k_=>P0_4_ k_)) Z13 hb)<|an_ (below_step (pB_ HB.out) hb)<|an_ (hbox)<|an_ ((by rw [hg];exact (by first|exact HK.out.1|exact (show Kept w _ (fun k_=>P0_4_ k_) from by repeat (first|(with_reducible first|exact HK.out|apply Kept.alloc|apply Kept.drewN|apply Kept.drew)|exact HK.out)).1):w.heap.size≤gb433))<|D (by rw [hg];exact (below_size (pB_ HB.out)):w0.heap.size≤gb433);clear HO0_4 HK HB;obtain ⟨HO0_4,HK,HB,BK433,GW433,GE433⟩:=n_;clear hb hbox hg;have hcz6_0:=cells5 BK433.out)|((with_reducible refine gate_callee (f:=46) rfl ?_);refine goesL_ (some 8) rfl rfl Try.func46 (by kernel_rfl) rfl #[Y Ao4 l0_4.length co4,I L a1] rfl Z12 ?_;(with_reducible refine (laws_markKidS.calls k (fun k_=>some k_=(Y Ao4 l0_4.length co4:Value).ownBlock) (Y Ao4 l0_4.length co4) l0_4 a1 t434 t435 w0 _ ?side1 ?side2 A3.out).mono ?_);(case side1=>exact pB_ HB.out);(case side2=>exact Kd.R_tight rfl HO0_4.out);rintro e w7 ⟨rfl,hy0,hb,hkp⟩;refine ⟨_,rfl,?_⟩;have n_:=an_ (Kd.R_reok rfl hy0 (fun k_ e_=>HO0_4.out.1 k_ e_))<|an_ (blk_kept (pk_ BK433.out) hkp (fun hs_=>(fun e_=>(Kd.R_ne HO0_4.out BK433.out (by decide)) e_) hs_))<|an_ (Kept.then_ (S:=(fun k_=>P0_4_ k_)) (by repeat (first|(with_reducible first|exact HK.out|apply Kept.alloc|apply Kept.drewN|apply Kept.drew|refine Kept.setCell ?_ (.inr GW433.out) _)|exact HK.out)) hkp (fun k_ hs_=>(fun e_=>(HO0_4.out.1 k_ e_.symm)) hs_))<|D (hb);clear HO0_4 BK433 HK HB;obtain ⟨HO0_4,BK433,HK,HB⟩:=n_;(try clear hb);(try clear hkp);(try clear hy0)))
 go_ret
 exact ⟨er_,by (with_reducible repeat (first|apply Kd.R_alloc|apply Kd.R_drewN|apply Kd.R_drew));exact HO0_4.out,pB_ HB.out,by repeat (first|(with_reducible first|exact HK.out|apply Kept.alloc|apply Kept.drewN|apply Kept.drew|refine Kept.setCell ?_ (.inr GW433.out) _)|exact HK.out)⟩

end Go.Proofs.Ytmloggnobgikdaa.PFnExactTreeCut
