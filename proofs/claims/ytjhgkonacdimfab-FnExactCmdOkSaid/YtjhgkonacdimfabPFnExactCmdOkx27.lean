-- by a program of this session's, over the kit's words
import Derived.Test.YtjhgkonacdimfabPZFnExactCmdOk
import Derived.Test.YtjhgkonacdimfabPFnExactCmdOkx0
import Derived.Test.YtjhgkonacdimfabPFnExactCmdOkx26
namespace Go.Proofs.Ytjhgkonacdimfab.PFnExactCmdOk
open Go.RowKit Go.Proofs.YtjhgkonacdimfabW.PrintWords Go.Proofs.YtjhgkonacdimfabW.PrintLast Go.Proofs.YtjhgkonacdimfabW.PrintMore Go.Proofs.YtjhgkonacdimfabV Go.Proofs.Ytjhgkonacdimfab.ZFnExactCmdOk
open Go.Value renaming int → I, slice → Y
open Go.IntKind renaming i64 → L
open Aside0 renaming mk → D
open Option renaming bind_eq_some_iff → bs_
attribute [local go_sem] max2_int min2_int max_two min_two max_three min_three max_four min_four   -- for this text's walks alone
set_option linter.unusedVariables false
set_option linter.unusedSimpArgs false

/-! ### laws_eqModuleS: function 26 -/
def laws_eqModuleS.l0 : Nat → List (S65) → List (S65) → Int → Option (Bool)
 | 0, _, _, _ => none
 | k + 1,x0,x1,x5=>if x5 < (x0.length:Int) then (if 0≤x5 then (if x5 < (x1.length:Int) then ((laws_eqModule.f ((rd_T65 x0 x5).f0) ((rd_T65 x0 x5).f1.f0.f0) ((rd_T65 x0 x5).f1.f0.f1) ((rd_T65 x0 x5).f1.f0.f2) ((rd_T65 x0 x5).f1.f0.f3) ((rd_T65 x0 x5).f1.f0.f4) ((rd_T65 x0 x5).f1.f1) ((rd_T65 x0 x5).f2.f0.f0) ((rd_T65 x0 x5).f2.f0.f1) ((rd_T65 x0 x5).f2.f0.f2) ((rd_T65 x0 x5).f2.f0.f3) ((rd_T65 x0 x5).f2.f0.f4) ((rd_T65 x0 x5).f2.f1) ((rd_T65 x0 x5).f3) ((rd_T65 x0 x5).f4) ((rd_T65 x0 x5).f5) ((rd_T65 x0 x5).f6) ((rd_T65 x1 x5).f0) ((rd_T65 x1 x5).f1.f0.f0) ((rd_T65 x1 x5).f1.f0.f1) ((rd_T65 x1 x5).f1.f0.f2) ((rd_T65 x1 x5).f1.f0.f3) ((rd_T65 x1 x5).f1.f0.f4) ((rd_T65 x1 x5).f1.f1) ((rd_T65 x1 x5).f2.f0.f0) ((rd_T65 x1 x5).f2.f0.f1) ((rd_T65 x1 x5).f2.f0.f2) ((rd_T65 x1 x5).f2.f0.f3) ((rd_T65 x1 x5).f2.f0.f4) ((rd_T65 x1 x5).f2.f1) ((rd_T65 x1 x5).f3) ((rd_T65 x1 x5).f4) ((rd_T65 x1 x5).f5) ((rd_T65 x1 x5).f6)).bind fun t495=>(if t495=true then (laws_eqModuleS.l0 k x0 x1 (wrap64 (x5 + 1))) else (some false))) else (none)) else (none)) else (some true)
def laws_eqModuleS.f (k : Nat) (l0 l1 : List (S65)) : Option (Bool) := if (l0.length : Int) = (l1.length : Int) then (laws_eqModuleS.l0 k l0 l1 0) else (some false)
def laws_eqModuleS.T6 : Bool × List (List Nat × List Nat) := (true, [([], []), ([], []), ([0, 1], [0, 1]), ([2], [2]), ([], []), ([], []), ([4, 5], [4, 5]), ([6], [6]), ([3, 7], [3, 7]), ([8], [8])])
def laws_eqModuleS.B6 : List Nat := [0, 0, 3, 7, 0, 0, 48, 112, 255, 511]
theorem laws_eqModuleS.tab6 : rtab .any (opsOf Try.f26 6) = laws_eqModuleS.T6 := by kernel_rfl
theorem laws_eqModuleS.bits6 : waitsOk laws_eqModuleS.T6.2 laws_eqModuleS.B6 = true := by kernel_rfl
set_option maxHeartbeats 8000000 in
set_option maxRecDepth 100000 in
theorem laws_eqModuleS.calls (k : Nat) (A0 : Option Addr) (c0 : Nat) (l0 : List (S65)) (A1 : Option Addr) (c1 : Nat) (l1 : List (S65)) (r : Bool) (w : World) (hr0 : Kd.C k65 w A0 l0.length l0) (hc0 : l0.length ≤ c0) (hr1 : Kd.C k65 w A1 l1.length l1) (hc1 : l1.length ≤ c1) (h : laws_eqModuleS.f k l0 l1 = some r) :
  Calls Try.prog 26 #[Y A0 l0.length c0, Y A1 l1.length c1] w fun e w' => e = .returned (.bool r) ∧ Below w.heap.size w w' := by
 have hu65 := Try.underlying65
 have HR0 := D hr0
 have HC0 := D hc0
 clear hr0 hc0
 have HR1 := D hr1
 have HC1 := D hc1
 clear hr1 hc1
 have HB := D (Below.refl w.heap.size w)
 have H : (if (l0.length : Int) = (l1.length : Int) then (laws_eqModuleS.l0 k l0 l1 0) else (some false)) = some r := h
 clear h
 by_cases c3 : (l0.length : Int) = (l1.length : Int)
 ·rw [if_pos c3] at H
  have c3b0 : ((l0.length : Int) == (l1.length : Int)) = true := beq_iff_eq.mpr c3; have c3b1 : ((l0.length : Int) != (l1.length : Int)) = false := bne_eq_false_iff_eq.mpr c3
  have c3b2 : (l0.length == l1.length) = true := by first | simpa using c3 | (simp at c3 ⊢; omega)
  clear c3; have H' := D H; clear H; go_enter Try.func26, Try.ntmps26
  go_wp2
  go_loopg [5] k (fun kq v5 w' => ∃ (x5_1 : Int), v5 = I L x5_1 ∧ Aside0 (laws_eqModuleS.l0 kq l0 l1 x5_1 = some r) ∧ Aside0 (kq ≤ k) ∧ Aside0 (Below w.heap.size w w'))
  case atStart => exact ⟨(0), Z11, H', ⟨Nat.le_refl _⟩, ⟨pB_ HB.out⟩⟩
  case round =>
   clear H'
   (try clear c1);(try clear c2);(try clear p2);(try clear c3);(try clear c3b0);(try clear c3b1);(try clear c3b2)
   obtain ⟨x5_1, rfl, HA, HK1, HB⟩ := hrel
   cases gk with
   | zero => exact absurd HA.out (by simp [laws_eqModuleS.l0])
   | succ k1 =>
    have H := HA.out; clear HA; simp only [laws_eqModuleS.l0] at H
    by_cases c4 : x5_1 < (l0.length : Int)
    ·rw [if_pos c4] at H
     have c4b0 : decide (x5_1 < (l0.length : Int)) = true := decide_eq_true c4; clear c4
     by_cases c5 : 0 ≤ x5_1
     ·rw [if_pos c5] at H
      have c5b0 : decide (0 ≤ x5_1) = true := decide_eq_true c5; clear c5
      by_cases c6 : x5_1 < (l1.length : Int)
      ·rw [if_pos c6] at H
       have c6b0:decide (x5_1 < (l1.length:Int))=true:=decide_eq_true c6;clear c6;obtain ⟨Ja,A70,H⟩:=bs_.mp H;(try dsimp only at H);have A7:=D A70;clear A70;have HU8:=D H;clear H
       try go_wp2
       have n0_:=D (below_drew1 HB.out);clear HB;have HB:=n0_;clear n0_;have p493:0≤(x5_1:Int):=od_ Z10;have q493:x5_1 < (l0.length:Int):=od_ Z10;obtain ⟨ad493,e493,hx493_0,hx493_1,hx493_2,hx493_3,hx493_4,hx493_5,hx493_6,hx493_7,hx493_8,hx493_9,hx493_10,hx493_11,hx493_12,hx493_13,hx493_14,hx493_15,hx493_16⟩:=at_T65 HR0.out x5_1 p493 q493;have hw493_16:=hx493_16;have hw493_15:=hx493_15;have hw493_14:=hx493_14;have hw493_13:=hx493_13;have hw493_12:=hx493_12;have hw493_11:=hx493_11;have hw493_10:=hx493_10;have hw493_9:=hx493_9;have hw493_8:=hx493_8;have hw493_7:=hx493_7;have hw493_6:=hx493_6;have hw493_5:=hx493_5;have hw493_4:=hx493_4;have hw493_3:=hx493_3;have hw493_2:=hx493_2;have hw493_1:=hx493_1;have hw493_0:=hx493_0;cases e493;replace hx493_0:=rc_ HB.out hx493_0;replace hx493_1:=rc_ HB.out hx493_1;replace hx493_2:=rc_ HB.out hx493_2;replace hx493_3:=rc_ HB.out hx493_3;replace hx493_4:=rc_ HB.out hx493_4;replace hx493_5:=rc_ HB.out hx493_5;replace hx493_6:=rc_ HB.out hx493_6;replace hx493_7:=rc_ HB.out hx493_7;replace hx493_8:=rc_ HB.out hx493_8;replace hx493_9:=rc_ HB.out hx493_9;replace hx493_10:=rc_ HB.out hx493_10;replace hx493_11:=rc_ HB.out hx493_11;replace hx493_12:=rc_ HB.out hx493_12;replace hx493_13:=rc_ HB.out hx493_13;replace hx493_14:=rc_ HB.out hx493_14;replace hx493_15:=rc_ HB.out hx493_15;replace hx493_16:=rc_ HB.out hx493_16;replace p493:=eq_true p493;replace q493:=eq_true q493;have p494:0≤(x5_1:Int):=od_ Z10;have q494:x5_1 < (l1.length:Int):=od_ Z10;obtain ⟨ad494,e494,hx494_0,hx494_1,hx494_2,hx494_3,hx494_4,hx494_5,hx494_6,hx494_7,hx494_8,hx494_9,hx494_10,hx494_11,hx494_12,hx494_13,hx494_14,hx494_15,hx494_16⟩:=at_T65 HR1.out x5_1 p494 q494;have hw494_16:=hx494_16;have hw494_15:=hx494_15;have hw494_14:=hx494_14;have hw494_13:=hx494_13;have hw494_12:=hx494_12;have hw494_11:=hx494_11;have hw494_10:=hx494_10;have hw494_9:=hx494_9;have hw494_8:=hx494_8;have hw494_7:=hx494_7;have hw494_6:=hx494_6;have hw494_5:=hx494_5;have hw494_4:=hx494_4;have hw494_3:=hx494_3;have hw494_2:=hx494_2;have hw494_1:=hx494_1;have hw494_0:=hx494_0;cases e494;replace hx494_0:=rc_ HB.out hx494_0;replace hx494_1:=rc_ HB.out hx494_1;replace hx494_2:=rc_ HB.out hx494_2;replace hx494_3:=rc_ HB.out hx494_3;replace hx494_4:=rc_ HB.out hx494_4;replace hx494_5:=rc_ HB.out hx494_5;replace hx494_6:=rc_ HB.out hx494_6;replace hx494_7:=rc_ HB.out hx494_7;replace hx494_8:=rc_ HB.out hx494_8;replace hx494_9:=rc_ HB.out hx494_9
       replace hx494_10:=rc_ HB.out hx494_10;replace hx494_11:=rc_ HB.out hx494_11;replace hx494_12:=rc_ HB.out hx494_12;replace hx494_13:=rc_ HB.out hx494_13;replace hx494_14:=rc_ HB.out hx494_14;replace hx494_15:=rc_ HB.out hx494_15;replace hx494_16:=rc_ HB.out hx494_16;replace p494:=eq_true p494;replace q494:=eq_true q494;refine start_ (n:=10) (S:=fun w'=>w'.cell? (ad493.add ((x5_1).toNat * 17))=some (I L ((rd_T65 l0 x5_1).f0))∧w'.cell? ⟨(ad493.add ((x5_1).toNat * 17)).block,(ad493.add ((x5_1).toNat * 17)).off + 1,none⟩=some (I L ((rd_T65 l0 x5_1).f1.f0.f0))∧w'.cell? ⟨(ad493.add ((x5_1).toNat * 17)).block,(ad493.add ((x5_1).toNat * 17)).off + 2,none⟩=some (I L ((rd_T65 l0 x5_1).f1.f0.f1))∧w'.cell? ⟨(ad493.add ((x5_1).toNat * 17)).block,(ad493.add ((x5_1).toNat * 17)).off + 3,none⟩=some (I L ((rd_T65 l0 x5_1).f1.f0.f2))∧w'.cell? ⟨(ad493.add ((x5_1).toNat * 17)).block,(ad493.add ((x5_1).toNat * 17)).off + 4,none⟩=some (I L ((rd_T65 l0 x5_1).f1.f0.f3))∧w'.cell? ⟨(ad493.add ((x5_1).toNat * 17)).block,(ad493.add ((x5_1).toNat * 17)).off + 5,none⟩=some (I L ((rd_T65 l0 x5_1).f1.f0.f4))∧w'.cell? ⟨(ad493.add ((x5_1).toNat * 17)).block,(ad493.add ((x5_1).toNat * 17)).off + 6,none⟩=some (I L ((rd_T65 l0 x5_1).f1.f1))∧w'.cell? ⟨(ad493.add ((x5_1).toNat * 17)).block,(ad493.add ((x5_1).toNat * 17)).off + 7,none⟩=some (I L ((rd_T65 l0 x5_1).f2.f0.f0))∧w'.cell? ⟨(ad493.add ((x5_1).toNat * 17)).block,(ad493.add ((x5_1).toNat * 17)).off + 8,none⟩=some (I L ((rd_T65 l0 x5_1).f2.f0.f1))∧w'.cell? ⟨(ad493.add ((x5_1).toNat * 17)).block,(ad493.add ((x5_1).toNat * 17)).off + 9,none⟩=some (I L ((rd_T65 l0 x5_1).f2.f0.f2))∧w'.cell? ⟨(ad493.add ((x5_1).toNat * 17)).block,(ad493.add ((x5_1).toNat * 17)).off + 10,none⟩=some (I L ((rd_T65 l0 x5_1).f2.f0.f3))∧w'.cell? ⟨(ad493.add ((x5_1).toNat * 17)).block,(ad493.add ((x5_1).toNat * 17)).off + 11,none⟩=some (I L ((rd_T65 l0 x5_1).f2.f0.f4))∧w'.cell? ⟨(ad493.add ((x5_1).toNat * 17)).block,(ad493.add ((x5_1).toNat * 17)).off + 12,none⟩=some (I L ((rd_T65 l0 x5_1).f2.f1))∧w'.cell? ⟨(ad493.add ((x5_1).toNat * 17)).block,(ad493.add ((x5_1).toNat * 17)).off + 13,none⟩=some (I L ((rd_T65 l0 x5_1).f3))∧w'.cell? ⟨(ad493.add ((x5_1).toNat * 17)).block,(ad493.add ((x5_1).toNat * 17)).off + 14,none⟩=some (I L ((rd_T65 l0 x5_1).f4))∧w'.cell? ⟨(ad493.add ((x5_1).toNat * 17)).block,(ad493.add ((x5_1).toNat * 17)).off + 15,none⟩=some (I L ((rd_T65 l0 x5_1).f5))∧w'.cell? ⟨(ad493.add ((x5_1).toNat * 17)).block,(ad493.add ((x5_1).toNat * 17)).off + 16,none⟩=some (I L ((rd_T65 l0 x5_1).f6))∧w'.cell? (ad494.add ((x5_1).toNat * 17))=some (I L ((rd_T65 l1 x5_1).f0))∧w'.cell? ⟨(ad494.add ((x5_1).toNat * 17)).block,(ad494.add ((x5_1).toNat * 17)).off + 1,none⟩=some (I L ((rd_T65 l1 x5_1).f1.f0.f0))∧w'.cell? ⟨(ad494.add ((x5_1).toNat * 17)).block,(ad494.add ((x5_1).toNat * 17)).off + 2,none⟩=some (I L ((rd_T65 l1 x5_1).f1.f0.f1))∧w'.cell? ⟨(ad494.add ((x5_1).toNat * 17)).block,(ad494.add ((x5_1).toNat * 17)).off + 3,none⟩=some (I L ((rd_T65 l1 x5_1).f1.f0.f2))∧w'.cell? ⟨(ad494.add ((x5_1).toNat * 17)).block,(ad494.add ((x5_1).toNat * 17)).off + 4,none⟩=some (I L ((rd_T65 l1 x5_1).f1.f0.f3))∧w'.cell? ⟨(ad494.add ((x5_1).toNat * 17)).block,(ad494.add ((x5_1).toNat * 17)).off + 5,none⟩=some (I L ((rd_T65 l1 x5_1).f1.f0.f4))∧w'.cell? ⟨(ad494.add ((x5_1).toNat * 17)).block,(ad494.add ((x5_1).toNat * 17)).off + 6,none⟩=some (I L ((rd_T65 l1 x5_1).f1.f1))∧w'.cell? ⟨(ad494.add ((x5_1).toNat * 17)).block,(ad494.add ((x5_1).toNat * 17)).off + 7,none⟩=some (I L ((rd_T65 l1 x5_1).f2.f0.f0))∧w'.cell? ⟨(ad494.add ((x5_1).toNat * 17)).block,(ad494.add ((x5_1).toNat * 17)).off + 8,none⟩=some (I L ((rd_T65 l1 x5_1).f2.f0.f1))∧w'.cell? ⟨(ad494.add ((x5_1).toNat * 17)).block,(ad494.add ((x5_1).toNat * 17)).off + 9,none⟩=some (I L ((rd_T65 l1 x5_1).f2.f0.f2))∧w'.cell? ⟨(ad494.add ((x5_1).toNat * 17)).block,(ad494.add ((x5_1).toNat * 17)).off + 10,none⟩=some (I L ((rd_T65 l1 x5_1).f2.f0.f3))∧w'.cell? ⟨(ad494.add ((x5_1).toNat * 17)).block,(ad494.add ((x5_1).toNat * 17)).off + 11,none⟩=some (I L ((rd_T65 l1 x5_1).f2.f0.f4))∧w'.cell? ⟨(ad494.add ((x5_1).toNat * 17)).block,(ad494.add ((x5_1).toNat * 17)).off + 12,none⟩=some (I L ((rd_T65 l1 x5_1).f2.f1))∧w'.cell? ⟨(ad494.add ((x5_1).toNat * 17)).block,(ad494.add ((x5_1).toNat * 17)).off + 13,none⟩=some (I L ((rd_T65 l1 x5_1).f3))∧w'.cell? ⟨(ad494.add ((x5_1).toNat * 17)).block,(ad494.add ((x5_1).toNat * 17)).off + 14,none⟩=some (I L ((rd_T65 l1 x5_1).f4))∧w'.cell? ⟨(ad494.add ((x5_1).toNat * 17)).block,(ad494.add ((x5_1).toNat * 17)).off + 15,none⟩=some (I L ((rd_T65 l1 x5_1).f5))∧w'.cell? ⟨(ad494.add ((x5_1).toNat * 17)).block,(ad494.add ((x5_1).toNat * 17)).off + 16,none⟩=some (I L ((rd_T65 l1 x5_1).f6))) (ds:=[]) (bz 10 0) (by kernel_rfl) rfl (by kernel_rfl) (rk6_ HB.out hw493_0 hw493_1 hw493_2 hw493_3 hw493_4 hw493_5 (rk6_ HB.out hw493_6 hw493_7 hw493_8 hw493_9 hw493_10 hw493_11 (rk6_ HB.out hw493_12 hw493_13 hw493_14 hw493_15 hw493_16 hw494_0 (rk6_ HB.out hw494_1 hw494_2 hw494_3 hw494_4 hw494_5 hw494_6 (rk6_ HB.out hw494_7 hw494_8 hw494_9 hw494_10 hw494_11 hw494_12 (re4_ HB.out hw494_13 hw494_14 hw494_15 hw494_16)))))) (fun hHeld=>?_);refine with_tabW laws_eqModuleS.tab6 laws_eqModuleS.bits6 (fun HT_ HW_=>?_)
       generalize wr.drew=w9 at HB hx493_0 hx493_1 hx493_10 hx493_11 hx493_12 hx493_13 hx493_14 hx493_15 hx493_16 hx493_2 hx493_3 hx493_4 hx493_5 hx493_6 hx493_7 hx493_8 hx493_9 hx494_0 hx494_1 hx494_10 hx494_11 hx494_12 hx494_13 hx494_14 hx494_15 hx494_16 hx494_2 hx494_3 hx494_4 hx494_5 hx494_6 hx494_7 hx494_8 hx494_9 hHeld ⊢;refine pb_ 0 ?_;refine pb_ 1 ?_;refine pb_ 2 ?_;refine pb_ 4 ?_;refine pb_ 5 ?_;refine pb_ 6 ?_;refine tb_ 3 rfl rfl hHeld Z5 ?_;refine tb_ 7 rfl rfl hHeld Z5 ?_;refine oa_ 8 25 10 511 HT_ (fun K hK=>?_);refine goes_ Try.func40 (by kernel_rfl) rfl #[.agg #[I L ((rd_T65 l0 x5_1).f0),I L ((rd_T65 l0 x5_1).f1.f0.f0),I L ((rd_T65 l0 x5_1).f1.f0.f1),I L ((rd_T65 l0 x5_1).f1.f0.f2),I L ((rd_T65 l0 x5_1).f1.f0.f3),I L ((rd_T65 l0 x5_1).f1.f0.f4),I L ((rd_T65 l0 x5_1).f1.f1),I L ((rd_T65 l0 x5_1).f2.f0.f0),I L ((rd_T65 l0 x5_1).f2.f0.f1),I L ((rd_T65 l0 x5_1).f2.f0.f2),I L ((rd_T65 l0 x5_1).f2.f0.f3),I L ((rd_T65 l0 x5_1).f2.f0.f4),I L ((rd_T65 l0 x5_1).f2.f1),I L ((rd_T65 l0 x5_1).f3),I L ((rd_T65 l0 x5_1).f4),I L ((rd_T65 l0 x5_1).f5),I L ((rd_T65 l0 x5_1).f6)],.agg #[I L ((rd_T65 l1 x5_1).f0),I L ((rd_T65 l1 x5_1).f1.f0.f0),I L ((rd_T65 l1 x5_1).f1.f0.f1),I L ((rd_T65 l1 x5_1).f1.f0.f2),I L ((rd_T65 l1 x5_1).f1.f0.f3),I L ((rd_T65 l1 x5_1).f1.f0.f4),I L ((rd_T65 l1 x5_1).f1.f1),I L ((rd_T65 l1 x5_1).f2.f0.f0),I L ((rd_T65 l1 x5_1).f2.f0.f1),I L ((rd_T65 l1 x5_1).f2.f0.f2),I L ((rd_T65 l1 x5_1).f2.f0.f3),I L ((rd_T65 l1 x5_1).f2.f0.f4),I L ((rd_T65 l1 x5_1).f2.f1),I L ((rd_T65 l1 x5_1).f3),I L ((rd_T65 l1 x5_1).f4),I L ((rd_T65 l1 x5_1).f5),I L ((rd_T65 l1 x5_1).f6)]] (by rfl) rfl rfl Z6 ?_;with_reducible refine (laws_eqModule.calls ((rd_T65 l0 x5_1).f0) ((rd_T65 l0 x5_1).f1.f0.f0) ((rd_T65 l0 x5_1).f1.f0.f1) ((rd_T65 l0 x5_1).f1.f0.f2) ((rd_T65 l0 x5_1).f1.f0.f3) ((rd_T65 l0 x5_1).f1.f0.f4) ((rd_T65 l0 x5_1).f1.f1) ((rd_T65 l0 x5_1).f2.f0.f0) ((rd_T65 l0 x5_1).f2.f0.f1) ((rd_T65 l0 x5_1).f2.f0.f2) ((rd_T65 l0 x5_1).f2.f0.f3) ((rd_T65 l0 x5_1).f2.f0.f4) ((rd_T65 l0 x5_1).f2.f1) ((rd_T65 l0 x5_1).f3) ((rd_T65 l0 x5_1).f4) ((rd_T65 l0 x5_1).f5) ((rd_T65 l0 x5_1).f6) ((rd_T65 l1 x5_1).f0) ((rd_T65 l1 x5_1).f1.f0.f0) ((rd_T65 l1 x5_1).f1.f0.f1) ((rd_T65 l1 x5_1).f1.f0.f2) ((rd_T65 l1 x5_1).f1.f0.f3) ((rd_T65 l1 x5_1).f1.f0.f4) ((rd_T65 l1 x5_1).f1.f1) ((rd_T65 l1 x5_1).f2.f0.f0) ((rd_T65 l1 x5_1).f2.f0.f1) ((rd_T65 l1 x5_1).f2.f0.f2) ((rd_T65 l1 x5_1).f2.f0.f3) ((rd_T65 l1 x5_1).f2.f0.f4) ((rd_T65 l1 x5_1).f2.f1) ((rd_T65 l1 x5_1).f3) ((rd_T65 l1 x5_1).f4) ((rd_T65 l1 x5_1).f5) ((rd_T65 l1 x5_1).f6) Ja _ A7.out).mono ?_
       rintro e w10 ⟨rfl,hb⟩;refine ⟨_,rfl,?_⟩;have n0_:=D (below_step (pB_ HB.out) hb);clear HB;have HB:=n0_;clear n0_;(try clear hb);refine hK.out _ _ (rk6_ HB.out hw493_0 hw493_1 hw493_2 hw493_3 hw493_4 hw493_5 (rk6_ HB.out hw493_6 hw493_7 hw493_8 hw493_9 hw493_10 hw493_11 (rk6_ HB.out hw493_12 hw493_13 hw493_14 hw493_15 hw493_16 hw494_0 (rk6_ HB.out hw494_1 hw494_2 hw494_3 hw494_4 hw494_5 hw494_6 (rk6_ HB.out hw494_7 hw494_8 hw494_9 hw494_10 hw494_11 hw494_12 (re4_ HB.out hw494_13 hw494_14 hw494_15 hw494_16)))))) (fun hHeld=>?_);clear hK K;refine nx_ (N:=some 25) ?_;refine pb_ 9 ?_;refine done_ (done_of HT_.out (by kernel_rfl)) ?_
       go_upto_if 26 with (fail)
       have H := HU8.out; clear HU8
       by_cases c11 : Ja = true
       ·subst c11
        rw [if_pos rfl] at H; have H' := D H; clear H
        go_wp2
        go_roundg k1
        case measure => have := HK1.out; omega
        case rel => exact ⟨(wrap64 (x5_1 + 1)), Z11, H', ⟨by have := HK1.out; omega⟩, ⟨pB_ HB.out⟩⟩
       ·replace c11 := Bool.eq_false_iff.mpr c11
        subst c11; rw [if_neg (show ¬ (false = true) by decide)] at H; obtain rfl := Option.some.inj H
        go_wp2
        go_ret; exact ⟨er_, pB_ HB.out⟩
      ·rw [if_neg c6] at H
       exact absurd H (by simp)
     ·rw [if_neg c5] at H
      exact absurd H (by simp)
    ·rw [if_neg c4] at H
     have c4b0 : decide (x5_1 < (l0.length : Int)) = false := decide_eq_false c4; clear c4; obtain rfl := Option.some.inj H
     go_wp2
     go_ret; exact ⟨er_, pB_ HB.out⟩
 ·rw [if_neg c3] at H
  have c3b0 : ((l0.length : Int) == (l1.length : Int)) = false := beq_eq_false_iff_ne.mpr c3; have c3b1 : ((l0.length : Int) != (l1.length : Int)) = true := bne_iff_ne.mpr c3
  have c3b2 : (l0.length == l1.length) = false := by first | simpa using c3 | (simp at c3 ⊢; omega)
  obtain rfl := Option.some.inj H; go_enter Try.func26, Try.ntmps26
  go_wp2
  go_ret; exact ⟨er_, pB_ HB.out⟩

end Go.Proofs.Ytjhgkonacdimfab.PFnExactCmdOk
