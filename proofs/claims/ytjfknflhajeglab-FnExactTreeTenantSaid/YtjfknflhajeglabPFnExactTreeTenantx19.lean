-- by a program of this session's, over the kit's words
import Derived.Test.YtjfknflhajeglabPZFnExactTreeTenant
import Derived.Test.YtjfknflhajeglabPFnExactTreeTenantx0
import Derived.Test.YtjfknflhajeglabPFnExactTreeTenantx18
namespace Go.Proofs.Ytjfknflhajeglab.PFnExactTreeTenant
open Go.RowKit Go.Proofs.YtjfknflhajeglabW.PrintWords Go.Proofs.YtjfknflhajeglabW.PrintLast Go.Proofs.YtjfknflhajeglabW.PrintMore Go.Proofs.YtjfknflhajeglabV Go.Proofs.Ytjfknflhajeglab.ZFnExactTreeTenant
open Go.Value renaming int → I, slice → Y
open Go.IntKind renaming i64 → L
open Aside0 renaming mk → D
open Option renaming bind_eq_some_iff → bs_
attribute [local go_sem] max2_int min2_int max_two min_two max_three min_three max_four min_four   -- for this text's walks alone
set_option linter.unusedVariables false
set_option linter.unusedSimpArgs false

/-! ### laws_heldBranchS: function 31 -/
def laws_heldBranchS.l0 : Nat → List (S54) → Int → Int → Option (Int)
 | 0, _, _, _ => none
 | k + 1,x0,x1,x5=>if x5 < (x0.length:Int) then (if 0≤x5 then (if ((rd_T54 x0 x5).f0)=x1 then (if ((rd_T54 x0 x5).f1.f0)=(wrap64 (x1 + 1)) then (if ((rd_T54 x0 x5).f1.f1.f0)=(wrap64 ((wrap64 (x1 + 1)) + 1)) then (if ((rd_T54 x0 x5).f1.f1.f1)=(wrap64 ((wrap64 ((wrap64 (x1 + 1)) + 1)) + 1)) then (if ((rd_T54 x0 x5).f1.f1.f2)=(wrap64 ((wrap64 ((wrap64 ((wrap64 (x1 + 1)) + 1)) + 1)) + 1)) then ((laws_heldKidS.f k ((rd_T54 x0 x5).f1.f2) (wrap64 ((wrap64 ((wrap64 ((wrap64 ((wrap64 (x1 + 1)) + 1)) + 1)) + 1)) + 1))).bind fun t561=>(if t561 < 0 then (some (-1)) else (laws_heldBranchS.l0 k x0 t561 (wrap64 (x5 + 1))))) else (some (-1))) else (some (-1))) else (some (-1))) else (some (-1))) else (some (-1))) else (none)) else (some x1)
def laws_heldBranchS.f (k : Nat) (l0 : List (S54)) (a1 : Int) : Option (Int) := laws_heldBranchS.l0 k l0 a1 0
set_option maxHeartbeats 8000000 in
set_option maxRecDepth 100000 in
theorem laws_heldBranchS.calls (k : Nat) (A0 : Option Addr) (c0 : Nat) (l0 : List (S54)) (a1 r : Int) (w : World) (hr0 : Kd.C k54 w A0 l0.length l0) (hc0 : l0.length ≤ c0) (h : laws_heldBranchS.f k l0 a1 = some r) :
  Calls Try.prog 31 #[Y A0 l0.length c0, I L a1] w fun e w' => e = .returned (I L r) ∧ Drawn0 w w' := by
 have HR0 := D hr0
 have HC0 := D hc0
 clear hr0 hc0
 have H : (laws_heldBranchS.l0 k l0 a1 0) = some r := h
 clear h
 have H' := D H
 clear H
 go_enter Try.func31, Try.ntmps31
 go_wp2
 go_loopg [1, 5] k (fun kq v1 v5 w' => ∃ (x1_1 : Int) (x5_1 : Int), v1 = I L x1_1 ∧ v5 = I L x5_1 ∧ Aside0 (laws_heldBranchS.l0 kq l0 x1_1 x5_1 = some r) ∧ Aside0 (kq ≤ k) ∧ Drawn0 w w')
 case atStart => exact ⟨(a1), (0), Z53, Z53, H', ⟨Nat.le_refl _⟩, by repeat (first | exact Drawn0.refl _ | apply Drawn0.step)⟩
 case round =>
  clear H'
  try clear p2
  obtain ⟨x1_1, x5_1, rfl, rfl, HA, HK1, ⟨m1, rfl⟩⟩ := hrel
  cases gk with
  | zero => exact absurd HA.out (by simp [laws_heldBranchS.l0])
  | succ k1 =>
   have H := HA.out; clear HA; simp only [laws_heldBranchS.l0] at H
   by_cases c3 : x5_1 < (l0.length : Int)
   ·rw [if_pos c3] at H
    have c3b0 : decide (x5_1 < (l0.length : Int)) = true := decide_eq_true c3; clear c3
    by_cases c4 : 0 ≤ x5_1
    ·rw [if_pos c4] at H
     have c4b0:decide (0≤x5_1)=true:=decide_eq_true c4;clear c4;have HU5:=D H;clear H;have p555:0≤(x5_1:Int):=od_ Z52;have q555:x5_1 < (l0.length:Int):=od_ Z52;obtain ⟨ad555,A555_5,c555_5,e555,hx555_0,hx555_1,hx555_2,hx555_3,hx555_4,hx555_5,hl555_5,hi555_5⟩:=at_T54 HR0.out x5_1 p555 q555;cases e555;have HR555_5:=D hi555_5;have HC555_5:=D hl555_5;clear hi555_5 hl555_5;replace p555:=eq_true p555;replace q555:=eq_true q555
     go_upto_if 18 with (fail)
     have H := HU5.out; clear HU5
     by_cases c6 : ((rd_T54 l0 x5_1).f0) = x1_1
     ·rw [if_pos c6] at H
      have c6b0:(((rd_T54 l0 x5_1).f0) == x1_1)=true:=beq_iff_eq.mpr c6;have c6b1:(((rd_T54 l0 x5_1).f0) != x1_1)=false:=bne_eq_false_iff_eq.mpr c6;clear c6;refine rw_ c6b0 ?_;have HU7:=D H;clear H;have p556:0≤(x5_1:Int):=od_ Z52;have q556:x5_1 < (l0.length:Int):=od_ Z52;obtain ⟨ad556,A556_5,c556_5,e556,hx556_0,hx556_1,hx556_2,hx556_3,hx556_4,hx556_5,hl556_5,hi556_5⟩:=at_T54 HR0.out x5_1 p556 q556;obtain rfl:ad555=ad556:=(by injection e556);have HR556_5:=D hi556_5;have HC556_5:=D hl556_5;clear hi556_5 hl556_5;replace p556:=eq_true p556;replace q556:=eq_true q556;have ea_:=Option.some.inj (hx555_5.symm.trans hx556_5)
      injection ea_ with ea_ en_ ec_
      subst ea_; subst ec_; clear en_
      go_upto_if 28 with (fail)
      have H := HU7.out; clear HU7
      by_cases c8 : ((rd_T54 l0 x5_1).f1.f0) = (wrap64 (x1_1 + 1))
      ·rw [if_pos c8] at H
       have c8b0:(((rd_T54 l0 x5_1).f1.f0) == (wrap64 (x1_1 + 1)))=true:=beq_iff_eq.mpr c8;have c8b1:(((rd_T54 l0 x5_1).f1.f0) != (wrap64 (x1_1 + 1)))=false:=bne_eq_false_iff_eq.mpr c8;clear c8;refine rw_ c8b0 ?_;have HU9:=D H;clear H;have p557:0≤(x5_1:Int):=od_ Z52;have q557:x5_1 < (l0.length:Int):=od_ Z52;obtain ⟨ad557,A557_5,c557_5,e557,hx557_0,hx557_1,hx557_2,hx557_3,hx557_4,hx557_5,hl557_5,hi557_5⟩:=at_T54 HR0.out x5_1 p557 q557;obtain rfl:ad555=ad557:=(by injection e557);have HR557_5:=D hi557_5;have HC557_5:=D hl557_5;clear hi557_5 hl557_5;replace p557:=eq_true p557;replace q557:=eq_true q557;have ea_:=Option.some.inj (hx555_5.symm.trans hx557_5)
       injection ea_ with ea_ en_ ec_
       subst ea_; subst ec_; clear en_
       go_upto_if 39 with (fail)
       have H := HU9.out; clear HU9
       by_cases c10 : ((rd_T54 l0 x5_1).f1.f1.f0) = (wrap64 ((wrap64 (x1_1 + 1)) + 1))
       ·rw [if_pos c10] at H
        have c10b0:(((rd_T54 l0 x5_1).f1.f1.f0) == (wrap64 ((wrap64 (x1_1 + 1)) + 1)))=true:=beq_iff_eq.mpr c10;have c10b1:(((rd_T54 l0 x5_1).f1.f1.f0) != (wrap64 ((wrap64 (x1_1 + 1)) + 1)))=false:=bne_eq_false_iff_eq.mpr c10;clear c10;refine rw_ c10b0 ?_;have HU11:=D H;clear H;have p558:0≤(x5_1:Int):=od_ Z52;have q558:x5_1 < (l0.length:Int):=od_ Z52;obtain ⟨ad558,A558_5,c558_5,e558,hx558_0,hx558_1,hx558_2,hx558_3,hx558_4,hx558_5,hl558_5,hi558_5⟩:=at_T54 HR0.out x5_1 p558 q558;obtain rfl:ad555=ad558:=(by injection e558);have HR558_5:=D hi558_5;have HC558_5:=D hl558_5;clear hi558_5 hl558_5;replace p558:=eq_true p558;replace q558:=eq_true q558;have ea_:=Option.some.inj (hx555_5.symm.trans hx558_5)
        injection ea_ with ea_ en_ ec_
        subst ea_; subst ec_; clear en_
        go_upto_if 50 with (fail)
        have H := HU11.out; clear HU11
        by_cases c12 : ((rd_T54 l0 x5_1).f1.f1.f1) = (wrap64 ((wrap64 ((wrap64 (x1_1 + 1)) + 1)) + 1))
        ·rw [if_pos c12] at H
         have c12b0:(((rd_T54 l0 x5_1).f1.f1.f1) == (wrap64 ((wrap64 ((wrap64 (x1_1 + 1)) + 1)) + 1)))=true:=beq_iff_eq.mpr c12;have c12b1:(((rd_T54 l0 x5_1).f1.f1.f1) != (wrap64 ((wrap64 ((wrap64 (x1_1 + 1)) + 1)) + 1)))=false:=bne_eq_false_iff_eq.mpr c12;clear c12;refine rw_ c12b0 ?_;have HU13:=D H;clear H;have p559:0≤(x5_1:Int):=od_ Z52;have q559:x5_1 < (l0.length:Int):=od_ Z52;obtain ⟨ad559,A559_5,c559_5,e559,hx559_0,hx559_1,hx559_2,hx559_3,hx559_4,hx559_5,hl559_5,hi559_5⟩:=at_T54 HR0.out x5_1 p559 q559;obtain rfl:ad555=ad559:=(by injection e559);have HR559_5:=D hi559_5;have HC559_5:=D hl559_5;clear hi559_5 hl559_5;replace p559:=eq_true p559;replace q559:=eq_true q559;have ea_:=Option.some.inj (hx555_5.symm.trans hx559_5)
         injection ea_ with ea_ en_ ec_
         subst ea_; subst ec_; clear en_
         go_upto_if 61 with (fail)
         have H := HU13.out; clear HU13
         by_cases c14 : ((rd_T54 l0 x5_1).f1.f1.f2) = (wrap64 ((wrap64 ((wrap64 ((wrap64 (x1_1 + 1)) + 1)) + 1)) + 1))
         ·rw [if_pos c14] at H
          have c14b0:(((rd_T54 l0 x5_1).f1.f1.f2) == (wrap64 ((wrap64 ((wrap64 ((wrap64 (x1_1 + 1)) + 1)) + 1)) + 1)))=true:=beq_iff_eq.mpr c14;have c14b1:(((rd_T54 l0 x5_1).f1.f1.f2) != (wrap64 ((wrap64 ((wrap64 ((wrap64 (x1_1 + 1)) + 1)) + 1)) + 1)))=false:=bne_eq_false_iff_eq.mpr c14;clear c14;refine rw_ c14b0 ?_;obtain ⟨t561,A150,H⟩:=bs_.mp H;(try dsimp only at H);have A15:=D A150;clear A150;have HU16:=D H;clear H;have p560:0≤(x5_1:Int):=od_ Z52;have q560:x5_1 < (l0.length:Int):=od_ Z52;obtain ⟨ad560,A560_5,c560_5,e560,hx560_0,hx560_1,hx560_2,hx560_3,hx560_4,hx560_5,hl560_5,hi560_5⟩:=at_T54 HR0.out x5_1 p560 q560;obtain rfl:ad555=ad560:=(by injection e560);have HR560_5:=D hi560_5;have HC560_5:=D hl560_5;clear hi560_5 hl560_5;replace p560:=eq_true p560;replace q560:=eq_true q560;have ea_:=Option.some.inj (hx555_5.symm.trans hx560_5)
          injection ea_ with ea_ en_ ec_
          subst ea_; subst ec_; clear en_
          go_upto_if 73 with (first|((with_reducible refine gate_callee (f:=58) rfl ?_);refine goesL_ (some 71) rfl rfl Try.func58 (by kernel_rfl) rfl #[Y A555_5 ((rd_T54 l0 x5_1).f1.f2).length c555_5,I L (wrap64 ((wrap64 ((wrap64 ((wrap64 ((wrap64 (x1_1 + 1)) + 1)) + 1)) + 1)) + 1))] rfl Z21 ?_;(with_reducible refine (laws_heldKidS.calls k1 _ _ ((rd_T54 l0 x5_1).f1.f2) (wrap64 ((wrap64 ((wrap64 ((wrap64 ((wrap64 (x1_1 + 1)) + 1)) + 1)) + 1)) + 1)) t561 _ ?side1 ?side2 A15.out).mono ?_);(case side1=>exact pC_ HR560_5.out);(case side2=>exact HC560_5.out);rintro e w' ⟨rfl,⟨nd,rfl⟩⟩;refine ⟨_,rfl,?_⟩))
          have H := HU16.out; clear HU16
          by_cases c17 : t561 < 0
          ·rw [if_pos c17] at H
           have c17b0:decide (t561 < 0)=true:=decide_eq_true c17;clear c17;refine rw_ c17b0 ?_;obtain rfl:=Option.some.inj H
           go_wp2
           go_ret; exact ⟨by first | rfl | (simp; done) | (simp [*]; done), by repeat (first | exact Drawn0.refl _ | apply Drawn0.step)⟩
          ·rw [if_neg c17] at H
           have c17b0:decide (t561 < 0)=false:=decide_eq_false c17;clear c17;refine rw_ c17b0 ?_;have H':=D H;clear H
           go_wp2
           go_roundg k1
           case measure => have := HK1.out; omega
           case rel => exact ⟨(t561), (wrap64 (x5_1 + 1)), Z53, Z53, H', ⟨by have := HK1.out; omega⟩, by repeat (first | exact Drawn0.refl _ | apply Drawn0.step)⟩
         ·rw [if_neg c14] at H
          have c14b0:(((rd_T54 l0 x5_1).f1.f1.f2) == (wrap64 ((wrap64 ((wrap64 ((wrap64 (x1_1 + 1)) + 1)) + 1)) + 1)))=false:=beq_eq_false_iff_ne.mpr c14;have c14b1:(((rd_T54 l0 x5_1).f1.f1.f2) != (wrap64 ((wrap64 ((wrap64 ((wrap64 (x1_1 + 1)) + 1)) + 1)) + 1)))=true:=bne_iff_ne.mpr c14;refine rw_ c14b0 ?_;obtain rfl:=Option.some.inj H
          go_wp2
          go_ret; exact ⟨by first | rfl | (simp; done) | (simp [*]; done), by repeat (first | exact Drawn0.refl _ | apply Drawn0.step)⟩
        ·rw [if_neg c12] at H
         have c12b0:(((rd_T54 l0 x5_1).f1.f1.f1) == (wrap64 ((wrap64 ((wrap64 (x1_1 + 1)) + 1)) + 1)))=false:=beq_eq_false_iff_ne.mpr c12;have c12b1:(((rd_T54 l0 x5_1).f1.f1.f1) != (wrap64 ((wrap64 ((wrap64 (x1_1 + 1)) + 1)) + 1)))=true:=bne_iff_ne.mpr c12;refine rw_ c12b0 ?_;obtain rfl:=Option.some.inj H
         go_wp2
         go_ret; exact ⟨by first | rfl | (simp; done) | (simp [*]; done), by repeat (first | exact Drawn0.refl _ | apply Drawn0.step)⟩
       ·rw [if_neg c10] at H
        have c10b0:(((rd_T54 l0 x5_1).f1.f1.f0) == (wrap64 ((wrap64 (x1_1 + 1)) + 1)))=false:=beq_eq_false_iff_ne.mpr c10;have c10b1:(((rd_T54 l0 x5_1).f1.f1.f0) != (wrap64 ((wrap64 (x1_1 + 1)) + 1)))=true:=bne_iff_ne.mpr c10;refine rw_ c10b0 ?_;obtain rfl:=Option.some.inj H
        go_wp2
        go_ret; exact ⟨by first | rfl | (simp; done) | (simp [*]; done), by repeat (first | exact Drawn0.refl _ | apply Drawn0.step)⟩
      ·rw [if_neg c8] at H
       have c8b0:(((rd_T54 l0 x5_1).f1.f0) == (wrap64 (x1_1 + 1)))=false:=beq_eq_false_iff_ne.mpr c8;have c8b1:(((rd_T54 l0 x5_1).f1.f0) != (wrap64 (x1_1 + 1)))=true:=bne_iff_ne.mpr c8;refine rw_ c8b0 ?_;obtain rfl:=Option.some.inj H
       go_wp2
       go_ret; exact ⟨by first | rfl | (simp; done) | (simp [*]; done), by repeat (first | exact Drawn0.refl _ | apply Drawn0.step)⟩
     ·rw [if_neg c6] at H
      have c6b0:(((rd_T54 l0 x5_1).f0) == x1_1)=false:=beq_eq_false_iff_ne.mpr c6;have c6b1:(((rd_T54 l0 x5_1).f0) != x1_1)=true:=bne_iff_ne.mpr c6;refine rw_ c6b0 ?_;obtain rfl:=Option.some.inj H
      go_wp2
      go_ret; exact ⟨by first | rfl | (simp; done) | (simp [*]; done), by repeat (first | exact Drawn0.refl _ | apply Drawn0.step)⟩
    ·rw [if_neg c4] at H
     exact absurd H (by simp)
   ·rw [if_neg c3] at H
    have c3b0 : decide (x5_1 < (l0.length : Int)) = false := decide_eq_false c3; clear c3; obtain rfl := Option.some.inj H
    go_wp2
    go_ret; exact ⟨by first | rfl | (simp; done) | (simp [*]; done), by repeat (first | exact Drawn0.refl _ | apply Drawn0.step)⟩

/-! ### laws_heldTree: function 10 -/
def laws_heldTree.f (k : Nat) (a0_0 a0_1 a0_2 a0_3 : Int) (l0_4 : List (S51)) (l0_5 : List (S54)) (a1 : Int) : Option (Int) := (laws_heldFair.f k a0_0 a0_1 a0_2 a0_3 l0_4 a1).bind fun t563 => (if t563 < 0 then (some (-1)) else ((laws_heldBranchS.f k l0_5 t563).bind fun t564 => (if t564 < 0 then (some (-1)) else (some t564))))
set_option maxHeartbeats 8000000 in
set_option maxRecDepth 100000 in
theorem laws_heldTree.calls (k : Nat) (a0_0 a0_1 a0_2 a0_3 : Int) (A0_4 : Option Addr) (c0_4 : Nat) (l0_4 : List (S51)) (A0_5 : Option Addr) (c0_5 : Nat) (l0_5 : List (S54)) (a1 r : Int) (w : World) (hr0_4 : Kd.C k51 w A0_4 l0_4.length l0_4) (hc0_4 : l0_4.length ≤ c0_4) (hr0_5 : Kd.C k54 w A0_5 l0_5.length l0_5) (hc0_5 : l0_5.length ≤ c0_5) (h : laws_heldTree.f k a0_0 a0_1 a0_2 a0_3 l0_4 l0_5 a1 = some r) :
  Calls Try.prog 10 #[.agg #[I L a0_0,I L a0_1,I L a0_2,I L a0_3,Y A0_4 l0_4.length c0_4,Y A0_5 l0_5.length c0_5],I L a1] w fun e w'=>e=.returned (I L r)∧Below w.heap.size w w':=by
 have hu37 := Try.underlying37
 have hu34 := Try.underlying34
 have HR0_4 := D hr0_4
 have HC0_4 := D hc0_4
 clear hr0_4 hc0_4
 have HR0_5 := D hr0_5
 have HC0_5 := D hc0_5
 clear hr0_5 hc0_5
 have HB := D (Below.refl w.heap.size w)
 have H:((laws_heldFair.f k a0_0 a0_1 a0_2 a0_3 l0_4 a1).bind fun t563=>(if t563 < 0 then (some (-1)) else ((laws_heldBranchS.f k l0_5 t563).bind fun t564=>(if t564 < 0 then (some (-1)) else (some t564)))))=some r:=h
 clear h
 obtain ⟨t563, A30, H⟩ := bs_.mp H
 (try dsimp only at H)
 have A3 := D A30
 clear A30
 have HU4 := D H
 clear H
 go_enter Try.func10, Try.ntmps10
 go_upto_if 10 with (first|((with_reducible refine gate_dst (N:=2) rfl ?_);refine bx_ (N:=2) (cs:=#[I L a0_0,I L a0_1,I L a0_2,I L a0_3,Y A0_4 l0_4.length c0_4,Y A0_5 l0_5.length c0_5]) (t:=37) ?_;intro gb562 hg w5 hbox hb;have n_:=an_ (below_step (pB_ HB.out) hb)<|an_ (hbox)<|an_ (bg_ hg (pB_ HB.out):w.heap.size≤gb562)<|D (bg_ hg (pB_ HB.out):w.heap.size≤gb562);clear HB;obtain ⟨HB,BK562,GW562,GE562⟩:=n_;clear hb hbox hg;have hcz6_0:=cells6 BK562.out)|((with_reducible refine gate_callee (f:=30) rfl ?_);refine goesL_ (some 8) rfl rfl Try.func30 (by kernel_rfl) rfl #[.agg #[I L a0_0,I L a0_1,I L a0_2,I L a0_3,Y A0_4 l0_4.length c0_4],I L a1] rfl Z21 ?_;(with_reducible refine (laws_heldFair.calls k a0_0 a0_1 a0_2 a0_3 _ _ l0_4 a1 t563 _ ?side1 ?side2 A3.out).mono ?_);(case side1=>exact pC_ (Kd.C_below HR0_4.out HB.out));(case side2=>exact HC0_4.out);rintro e w7 ⟨rfl,hb⟩;refine ⟨_,rfl,?_⟩;have n_:=an_ (blk_below (pk_ BK562.out) hb)<|D (below_step (pB_ HB.out) hb);clear BK562 HB;obtain ⟨BK562,HB⟩:=n_;(try clear hb)))
 have H := HU4.out
 clear HU4
 by_cases c8 : t563 < 0
 ·rw [if_pos c8] at H
  have c8b0:decide (t563 < 0)=true:=decide_eq_true c8;clear c8;refine rw_ c8b0 ?_;obtain rfl:=Option.some.inj H
  go_wp2
  go_ret; exact ⟨er_, pB_ HB.out⟩
 ·rw [if_neg c8] at H
  have c8b0:decide (t563 < 0)=false:=decide_eq_false c8;clear c8;refine rw_ c8b0 ?_;obtain ⟨t564,A90,H⟩:=bs_.mp H;(try dsimp only at H);have A9:=D A90;clear A90;have HU10:=D H;clear H;have hcz11_0:=cells6 BK562.out
  go_upto_if 16 with (first|((with_reducible refine gate_callee (f:=31) rfl ?_);refine goesL_ (some 14) rfl rfl Try.func31 (by kernel_rfl) rfl #[Y A0_5 l0_5.length c0_5,I L t563] rfl Z21 ?_;(with_reducible refine (laws_heldBranchS.calls k _ _ l0_5 t563 t564 _ ?side1 ?side2 A9.out).mono ?_);(case side1=>exact pC_ (Kd.C_below HR0_5.out HB.out));(case side2=>exact HC0_5.out);rintro e w' ⟨rfl,⟨nd,rfl⟩⟩;refine ⟨_,rfl,?_⟩))
  have H := HU10.out; clear HU10
  by_cases c12 : t564 < 0
  ·rw [if_pos c12] at H
   have c12b0:decide (t564 < 0)=true:=decide_eq_true c12;clear c12;refine rw_ c12b0 ?_;obtain rfl:=Option.some.inj H
   go_wp2
   go_ret; exact ⟨er_, pB_ HB.out⟩
  ·rw [if_neg c12] at H
   have c12b0:decide (t564 < 0)=false:=decide_eq_false c12;clear c12;refine rw_ c12b0 ?_;obtain rfl:=Option.some.inj H
   go_wp2
   go_ret; exact ⟨er_, pB_ HB.out⟩

end Go.Proofs.Ytjfknflhajeglab.PFnExactTreeTenant
