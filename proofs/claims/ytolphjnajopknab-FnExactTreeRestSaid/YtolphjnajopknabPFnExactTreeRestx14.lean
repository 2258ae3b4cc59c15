-- by a program of this session's, over the kit's words
import Derived.Test.YtolphjnajopknabPZFnExactTreeRest
import Derived.Test.YtolphjnajopknabPFnExactTreeRestx0
namespace Go.Proofs.Ytolphjnajopknab.PFnExactTreeRest
open Go.RowKit Go.Proofs.YtolphjnajopknabW.PrintWords Go.Proofs.YtolphjnajopknabW.PrintLast Go.Proofs.YtolphjnajopknabW.PrintMore Go.Proofs.YtolphjnajopknabV Go.Proofs.Ytolphjnajopknab.ZFnExactTreeRest
open Go.Value renaming int → I, slice → Y
open Go.IntKind renaming i64 → L
open Aside0 renaming mk → D
open Option renaming bind_eq_some_iff → bs_
attribute [local go_sem] max2_int min2_int max_two min_two max_three min_three max_four min_four   -- for this text's walks alone
set_option linter.unusedVariables false
set_option linter.unusedSimpArgs false

/-! ### laws_heldKidS: function 48 -/
def laws_heldKidS.l0 : Nat → List (S70) → Int → Int → Option (Int)
 | 0, _, _, _ => none
 | k + 1,x0,x1,x5=>if x5 < (x0.length:Int) then (if 0≤x5 then (if ((rd_T70 x0 x5).f0)=x1 then (if ((rd_T70 x0 x5).f1)=(wrap64 (x1 + 1)) then (if (((rd_T70 x0 x5).f2) != ((Int.tmod (wrap64 ((wrap64 (x1 + 1)) + 1)) 3) == 0))=true then (some (-1)) else (if ((rd_T70 x0 x5).f3.f0)=(wrap64 ((wrap64 ((wrap64 (x1 + 1)) + 1)) + 1)) then (if ((rd_T70 x0 x5).f3.f1)=(wrap64 ((wrap64 ((wrap64 ((wrap64 (x1 + 1)) + 1)) + 1)) + 1)) then (if ((rd_T70 x0 x5).f3.f2)=(wrap64 ((wrap64 ((wrap64 ((wrap64 ((wrap64 (x1 + 1)) + 1)) + 1)) + 1)) + 1)) then (laws_heldKidS.l0 k x0 (wrap64 ((wrap64 ((wrap64 ((wrap64 ((wrap64 ((wrap64 (x1 + 1)) + 1)) + 1)) + 1)) + 1)) + 1)) (wrap64 (x5 + 1))) else (some (-1))) else (some (-1))) else (some (-1)))) else (some (-1))) else (some (-1))) else (none)) else (some x1)
def laws_heldKidS.f (k : Nat) (l0 : List (S70)) (a1 : Int) : Option (Int) := laws_heldKidS.l0 k l0 a1 0
set_option maxHeartbeats 8000000 in
set_option maxRecDepth 100000 in
theorem laws_heldKidS.calls (k : Nat) (A0 : Option Addr) (c0 : Nat) (l0 : List (S70)) (a1 r : Int) (w : World) (hr0 : Kd.C k70 w A0 l0.length l0) (hc0 : l0.length ≤ c0) (h : laws_heldKidS.f k l0 a1 = some r) :
  Calls Try.prog 48 #[Y A0 l0.length c0, I L a1] w fun e w' => e = .returned (I L r) ∧ Drawn0 w w' := by
 have HR0 := D hr0
 have HC0 := D hc0
 clear hr0 hc0
 have H : (laws_heldKidS.l0 k l0 a1 0) = some r := h
 clear h
 have H' := D H
 clear H
 go_enter Try.func48, Try.ntmps48
 go_wp2
 go_loopg [1, 5] k (fun kq v1 v5 w' => ∃ (x1_1 : Int) (x5_1 : Int), v1 = I L x1_1 ∧ v5 = I L x5_1 ∧ Aside0 (laws_heldKidS.l0 kq l0 x1_1 x5_1 = some r) ∧ Aside0 (kq ≤ k) ∧ Drawn0 w w')
 case atStart => exact ⟨(a1), (0), Z48, Z48, H', ⟨Nat.le_refl _⟩, by repeat (first | exact Drawn0.refl _ | apply Drawn0.step)⟩
 case round =>
  clear H'
  try clear p2
  obtain ⟨x1_1, x5_1, rfl, rfl, HA, HK1, ⟨m1, rfl⟩⟩ := hrel
  cases gk with
  | zero => exact absurd HA.out (by simp [laws_heldKidS.l0])
  | succ k1 =>
   have H := HA.out; clear HA; simp only [laws_heldKidS.l0] at H
   by_cases c3 : x5_1 < (l0.length : Int)
   ·rw [if_pos c3] at H
    have c3b0 : decide (x5_1 < (l0.length : Int)) = true := decide_eq_true c3; clear c3
    by_cases c4 : 0 ≤ x5_1
    ·rw [if_pos c4] at H
     have c4b0:decide (0≤x5_1)=true:=decide_eq_true c4;clear c4;have HU5:=D H;clear H;have p530:0≤(x5_1:Int):=od_ Z47;have q530:x5_1 < (l0.length:Int):=od_ Z47;obtain ⟨ad530,e530,hx530_0,hx530_1,hx530_2,hx530_3,hx530_4,hx530_5⟩:=at_T70 HR0.out x5_1 p530 q530;cases e530;replace p530:=eq_true p530;replace q530:=eq_true q530
     go_upto_if 18 with (fail)
     have H := HU5.out; clear HU5
     by_cases c6 : ((rd_T70 l0 x5_1).f0) = x1_1
     ·rw [if_pos c6] at H
      have c6b0:(((rd_T70 l0 x5_1).f0) == x1_1)=true:=beq_iff_eq.mpr c6;have c6b1:(((rd_T70 l0 x5_1).f0) != x1_1)=false:=bne_eq_false_iff_eq.mpr c6;clear c6;refine rw_ c6b0 ?_;have HU7:=D H;clear H;have p531:0≤(x5_1:Int):=od_ Z47;have q531:x5_1 < (l0.length:Int):=od_ Z47;obtain ⟨ad531,e531,hx531_0,hx531_1,hx531_2,hx531_3,hx531_4,hx531_5⟩:=at_T70 HR0.out x5_1 p531 q531;obtain rfl:ad530=ad531:=(by injection e531);replace p531:=eq_true p531;replace q531:=eq_true q531
      go_upto_if 27 with (fail)
      have H := HU7.out; clear HU7
      by_cases c8 : ((rd_T70 l0 x5_1).f1) = (wrap64 (x1_1 + 1))
      ·rw [if_pos c8] at H
       have c8b0:(((rd_T70 l0 x5_1).f1) == (wrap64 (x1_1 + 1)))=true:=beq_iff_eq.mpr c8;have c8b1:(((rd_T70 l0 x5_1).f1) != (wrap64 (x1_1 + 1)))=false:=bne_eq_false_iff_eq.mpr c8;clear c8;refine rw_ c8b0 ?_;have HU9:=D H;clear H;have p532:0≤(x5_1:Int):=od_ Z47;have q532:x5_1 < (l0.length:Int):=od_ Z47;obtain ⟨ad532,e532,hx532_0,hx532_1,hx532_2,hx532_3,hx532_4,hx532_5⟩:=at_T70 HR0.out x5_1 p532 q532;obtain rfl:ad530=ad532:=(by injection e532);replace p532:=eq_true p532;replace q532:=eq_true q532
       go_upto_if 38 with (fail)
       have H := HU9.out; clear HU9
       by_cases c10 : (((rd_T70 l0 x5_1).f2) != ((Int.tmod (wrap64 ((wrap64 (x1_1 + 1)) + 1)) 3) == 0)) = true
       ·rw [if_pos c10] at H
        have c10b0:(((rd_T70 l0 x5_1).f2) != ((Int.tmod (wrap64 ((wrap64 (x1_1 + 1)) + 1)) 3) == 0))=true:=c10;(try (have c10b1:decide (((rd_T70 l0 x5_1).f2)=((Int.tmod (wrap64 ((wrap64 (x1_1 + 1)) + 1)) 3) == 0))=false:=by simpa using c10));(try (have c10b2:(((rd_T70 l0 x5_1).f2) == ((Int.tmod (wrap64 ((wrap64 (x1_1 + 1)) + 1)) 3) == 0))=false:=by simpa using c10));(try (have c10b3:¬ (((rd_T70 l0 x5_1).f2)=((Int.tmod (wrap64 ((wrap64 (x1_1 + 1)) + 1)) 3) == 0)):=by simpa using c10));clear c10;refine rw_ c10b0 ?_;obtain rfl:=Option.some.inj H
        go_wp2
        go_ret; exact ⟨by first | rfl | (simp; done) | (simp [*]; done), by repeat (first | exact Drawn0.refl _ | apply Drawn0.step)⟩
       ·rw [if_neg c10] at H
        have c10b0 : (((rd_T70 l0 x5_1).f2) != ((Int.tmod (wrap64 ((wrap64 (x1_1 + 1)) + 1)) 3) == 0)) = false := by simpa using c10
        (try (have c10b1:decide (((rd_T70 l0 x5_1).f2)=((Int.tmod (wrap64 ((wrap64 (x1_1 + 1)) + 1)) 3) == 0))=true:=by simpa using c10));(try (have c10b2:(((rd_T70 l0 x5_1).f2) == ((Int.tmod (wrap64 ((wrap64 (x1_1 + 1)) + 1)) 3) == 0))=true:=by simpa using c10));clear c10;refine rw_ c10b0 ?_;have HU11:=D H;clear H;have p533:0≤(x5_1:Int):=od_ Z47;have q533:x5_1 < (l0.length:Int):=od_ Z47;obtain ⟨ad533,e533,hx533_0,hx533_1,hx533_2,hx533_3,hx533_4,hx533_5⟩:=at_T70 HR0.out x5_1 p533 q533;obtain rfl:ad530=ad533:=(by injection e533);replace p533:=eq_true p533;replace q533:=eq_true q533
        go_upto_if 48 with (fail)
        have H := HU11.out; clear HU11
        by_cases c12 : ((rd_T70 l0 x5_1).f3.f0) = (wrap64 ((wrap64 ((wrap64 (x1_1 + 1)) + 1)) + 1))
        ·rw [if_pos c12] at H
         have c12b0:(((rd_T70 l0 x5_1).f3.f0) == (wrap64 ((wrap64 ((wrap64 (x1_1 + 1)) + 1)) + 1)))=true:=beq_iff_eq.mpr c12;have c12b1:(((rd_T70 l0 x5_1).f3.f0) != (wrap64 ((wrap64 ((wrap64 (x1_1 + 1)) + 1)) + 1)))=false:=bne_eq_false_iff_eq.mpr c12;clear c12;refine rw_ c12b0 ?_;have HU13:=D H;clear H;have p534:0≤(x5_1:Int):=od_ Z47;have q534:x5_1 < (l0.length:Int):=od_ Z47;obtain ⟨ad534,e534,hx534_0,hx534_1,hx534_2,hx534_3,hx534_4,hx534_5⟩:=at_T70 HR0.out x5_1 p534 q534;obtain rfl:ad530=ad534:=(by injection e534);replace p534:=eq_true p534;replace q534:=eq_true q534
         go_upto_if 58 with (fail)
         have H := HU13.out; clear HU13
         by_cases c14 : ((rd_T70 l0 x5_1).f3.f1) = (wrap64 ((wrap64 ((wrap64 ((wrap64 (x1_1 + 1)) + 1)) + 1)) + 1))
         ·rw [if_pos c14] at H
          have c14b0:(((rd_T70 l0 x5_1).f3.f1) == (wrap64 ((wrap64 ((wrap64 ((wrap64 (x1_1 + 1)) + 1)) + 1)) + 1)))=true:=beq_iff_eq.mpr c14;have c14b1:(((rd_T70 l0 x5_1).f3.f1) != (wrap64 ((wrap64 ((wrap64 ((wrap64 (x1_1 + 1)) + 1)) + 1)) + 1)))=false:=bne_eq_false_iff_eq.mpr c14;clear c14;refine rw_ c14b0 ?_;have HU15:=D H;clear H;have p535:0≤(x5_1:Int):=od_ Z47;have q535:x5_1 < (l0.length:Int):=od_ Z47;obtain ⟨ad535,e535,hx535_0,hx535_1,hx535_2,hx535_3,hx535_4,hx535_5⟩:=at_T70 HR0.out x5_1 p535 q535;obtain rfl:ad530=ad535:=(by injection e535);replace p535:=eq_true p535;replace q535:=eq_true q535
          go_upto_if 68 with (fail)
          have H := HU15.out; clear HU15
          by_cases c16 : ((rd_T70 l0 x5_1).f3.f2) = (wrap64 ((wrap64 ((wrap64 ((wrap64 ((wrap64 (x1_1 + 1)) + 1)) + 1)) + 1)) + 1))
          ·rw [if_pos c16] at H
           have c16b0:(((rd_T70 l0 x5_1).f3.f2) == (wrap64 ((wrap64 ((wrap64 ((wrap64 ((wrap64 (x1_1 + 1)) + 1)) + 1)) + 1)) + 1)))=true:=beq_iff_eq.mpr c16;have c16b1:(((rd_T70 l0 x5_1).f3.f2) != (wrap64 ((wrap64 ((wrap64 ((wrap64 ((wrap64 (x1_1 + 1)) + 1)) + 1)) + 1)) + 1)))=false:=bne_eq_false_iff_eq.mpr c16;clear c16;refine rw_ c16b0 ?_;have H':=D H;clear H
           go_wp2
           go_roundg k1
           case measure => have := HK1.out; omega
           case rel=>exact ⟨(wrap64 ((wrap64 ((wrap64 ((wrap64 ((wrap64 ((wrap64 (x1_1 + 1)) + 1)) + 1)) + 1)) + 1)) + 1)),(wrap64 (x5_1 + 1)),Z48,Z48,H',⟨by have:=HK1.out;omega⟩,by repeat (first|exact Drawn0.refl _|apply Drawn0.step)⟩
          ·rw [if_neg c16] at H
           have c16b0:(((rd_T70 l0 x5_1).f3.f2) == (wrap64 ((wrap64 ((wrap64 ((wrap64 ((wrap64 (x1_1 + 1)) + 1)) + 1)) + 1)) + 1)))=false:=beq_eq_false_iff_ne.mpr c16;have c16b1:(((rd_T70 l0 x5_1).f3.f2) != (wrap64 ((wrap64 ((wrap64 ((wrap64 ((wrap64 (x1_1 + 1)) + 1)) + 1)) + 1)) + 1)))=true:=bne_iff_ne.mpr c16;refine rw_ c16b0 ?_;obtain rfl:=Option.some.inj H
           go_wp2
           go_ret; exact ⟨by first | rfl | (simp; done) | (simp [*]; done), by repeat (first | exact Drawn0.refl _ | apply Drawn0.step)⟩
         ·rw [if_neg c14] at H
          have c14b0:(((rd_T70 l0 x5_1).f3.f1) == (wrap64 ((wrap64 ((wrap64 ((wrap64 (x1_1 + 1)) + 1)) + 1)) + 1)))=false:=beq_eq_false_iff_ne.mpr c14;have c14b1:(((rd_T70 l0 x5_1).f3.f1) != (wrap64 ((wrap64 ((wrap64 ((wrap64 (x1_1 + 1)) + 1)) + 1)) + 1)))=true:=bne_iff_ne.mpr c14;refine rw_ c14b0 ?_;obtain rfl:=Option.some.inj H
          go_wp2
          go_ret; exact ⟨by first | rfl | (simp; done) | (simp [*]; done), by repeat (first | exact Drawn0.refl _ | apply Drawn0.step)⟩
        ·rw [if_neg c12] at H
         have c12b0:(((rd_T70 l0 x5_1).f3.f0) == (wrap64 ((wrap64 ((wrap64 (x1_1 + 1)) + 1)) + 1)))=false:=beq_eq_false_iff_ne.mpr c12;have c12b1:(((rd_T70 l0 x5_1).f3.f0) != (wrap64 ((wrap64 ((wrap64 (x1_1 + 1)) + 1)) + 1)))=true:=bne_iff_ne.mpr c12;refine rw_ c12b0 ?_;obtain rfl:=Option.some.inj H
         go_wp2
         go_ret; exact ⟨by first | rfl | (simp; done) | (simp [*]; done), by repeat (first | exact Drawn0.refl _ | apply Drawn0.step)⟩
      ·rw [if_neg c8] at H
       have c8b0:(((rd_T70 l0 x5_1).f1) == (wrap64 (x1_1 + 1)))=false:=beq_eq_false_iff_ne.mpr c8;have c8b1:(((rd_T70 l0 x5_1).f1) != (wrap64 (x1_1 + 1)))=true:=bne_iff_ne.mpr c8;refine rw_ c8b0 ?_;obtain rfl:=Option.some.inj H
       go_wp2
       go_ret; exact ⟨by first | rfl | (simp; done) | (simp [*]; done), by repeat (first | exact Drawn0.refl _ | apply Drawn0.step)⟩
     ·rw [if_neg c6] at H
      have c6b0:(((rd_T70 l0 x5_1).f0) == x1_1)=false:=beq_eq_false_iff_ne.mpr c6;have c6b1:(((rd_T70 l0 x5_1).f0) != x1_1)=true:=bne_iff_ne.mpr c6;refine rw_ c6b0 ?_;obtain rfl:=Option.some.inj H
      go_wp2
      go_ret; exact ⟨by first | rfl | (simp; done) | (simp [*]; done), by repeat (first | exact Drawn0.refl _ | apply Drawn0.step)⟩
    ·rw [if_neg c4] at H
     exact absurd H (by simp)
   ·rw [if_neg c3] at H
    have c3b0 : decide (x5_1 < (l0.length : Int)) = false := decide_eq_false c3; clear c3; obtain rfl := Option.some.inj H
    go_wp2
    go_ret; exact ⟨by first | rfl | (simp; done) | (simp [*]; done), by repeat (first | exact Drawn0.refl _ | apply Drawn0.step)⟩

/-! ### laws_heldFair: function 28 -/
def laws_heldFair.f (k : Nat) (a0_0 a0_1 a0_2 a0_3 : Int) (l0_4 : List (S70)) (a1 : Int) : Option (Int) := (laws_heldKidS.f k l0_4 a1).bind fun t537 => (if t537 < 0 then (some (-1)) else (some t537))
set_option maxHeartbeats 8000000 in
set_option maxRecDepth 100000 in
theorem laws_heldFair.calls (k : Nat) (a0_0 a0_1 a0_2 a0_3 : Int) (A0_4 : Option Addr) (c0_4 : Nat) (l0_4 : List (S70)) (a1 r : Int) (w : World) (hr0_4 : Kd.C k70 w A0_4 l0_4.length l0_4) (hc0_4 : l0_4.length ≤ c0_4) (h : laws_heldFair.f k a0_0 a0_1 a0_2 a0_3 l0_4 a1 = some r) :
  Calls Try.prog 28 #[.agg #[I L a0_0,I L a0_1,I L a0_2,I L a0_3,Y A0_4 l0_4.length c0_4],I L a1] w fun e w'=>e=.returned (I L r)∧Below w.heap.size w w':=by
 have hu34 := Try.underlying34
 have HR0_4 := D hr0_4
 have HC0_4 := D hc0_4
 clear hr0_4 hc0_4
 have HB := D (Below.refl w.heap.size w)
 have H : ((laws_heldKidS.f k l0_4 a1).bind fun t537 => (if t537 < 0 then (some (-1)) else (some t537))) = some r := h
 clear h
 obtain ⟨t537, A30, H⟩ := bs_.mp H
 (try dsimp only at H)
 have A3 := D A30
 clear A30
 have HU4 := D H
 clear H
 go_enter Try.func28, Try.ntmps28
 go_upto_if 10 with (first|((with_reducible refine gate_dst (N:=2) rfl ?_);refine bx_ (N:=2) (cs:=#[I L a0_0,I L a0_1,I L a0_2,I L a0_3,Y A0_4 l0_4.length c0_4]) (t:=34) ?_;intro gb536 hg w5 hbox hb;have n_:=an_ (below_step (pB_ HB.out) hb)<|an_ (hbox)<|an_ (bg_ hg (pB_ HB.out):w.heap.size≤gb536)<|D (bg_ hg (pB_ HB.out):w.heap.size≤gb536);clear HB;obtain ⟨HB,BK536,GW536,GE536⟩:=n_;clear hb hbox hg;obtain ⟨hcz6_0,hcz6_1,hcz6_2,hcz6_3,hcz6_4,hfz6_0,hfz6_1,hfz6_2,hfz6_3,hfz6_4⟩:=cells5 BK536.out)|((with_reducible refine gate_callee (f:=48) rfl ?_);refine goesL_ (some 8) rfl rfl Try.func48 (by kernel_rfl) rfl #[Y A0_4 l0_4.length c0_4,I L a1] rfl Z18 ?_;(with_reducible refine (laws_heldKidS.calls k _ _ l0_4 a1 t537 _ ?side1 ?side2 A3.out).mono ?_);(case side1=>exact pC_ (Kd.C_below HR0_4.out HB.out));(case side2=>exact HC0_4.out);rintro e w' ⟨rfl,⟨nd,rfl⟩⟩;refine ⟨_,rfl,?_⟩))
 have H := HU4.out
 clear HU4
 by_cases c7 : t537 < 0
 ·rw [if_pos c7] at H
  have c7b0:decide (t537 < 0)=true:=decide_eq_true c7;clear c7;refine rw_ c7b0 ?_;obtain rfl:=Option.some.inj H
  go_wp2
  go_ret; exact ⟨er_, pB_ HB.out⟩
 ·rw [if_neg c7] at H
  have c7b0:decide (t537 < 0)=false:=decide_eq_false c7;clear c7;refine rw_ c7b0 ?_;obtain rfl:=Option.some.inj H
  go_wp2
  go_ret; exact ⟨er_, pB_ HB.out⟩

/-! ### laws_heldBranchS: function 29 -/
def laws_heldBranchS.l0 : Nat → List (S50) → Int → Int → Option (Int)
 | 0, _, _, _ => none
 | k + 1,x0,x1,x5=>if x5 < (x0.length:Int) then (if 0≤x5 then (if ((rd_T50 x0 x5).f0)=x1 then (if ((rd_T50 x0 x5).f1.f0)=(wrap64 (x1 + 1)) then (if ((rd_T50 x0 x5).f1.f1.f0)=(wrap64 ((wrap64 (x1 + 1)) + 1)) then (if ((rd_T50 x0 x5).f1.f1.f1)=(wrap64 ((wrap64 ((wrap64 (x1 + 1)) + 1)) + 1)) then (if ((rd_T50 x0 x5).f1.f1.f2)=(wrap64 ((wrap64 ((wrap64 ((wrap64 (x1 + 1)) + 1)) + 1)) + 1)) then ((laws_heldKidS.f k ((rd_T50 x0 x5).f1.f2) (wrap64 ((wrap64 ((wrap64 ((wrap64 ((wrap64 (x1 + 1)) + 1)) + 1)) + 1)) + 1))).bind fun t544=>(if t544 < 0 then (some (-1)) else (laws_heldBranchS.l0 k x0 t544 (wrap64 (x5 + 1))))) else (some (-1))) else (some (-1))) else (some (-1))) else (some (-1))) else (some (-1))) else (none)) else (some x1)
def laws_heldBranchS.f (k : Nat) (l0 : List (S50)) (a1 : Int) : Option (Int) := laws_heldBranchS.l0 k l0 a1 0
set_option maxHeartbeats 8000000 in
set_option maxRecDepth 100000 in
theorem laws_heldBranchS.calls (k : Nat) (A0 : Option Addr) (c0 : Nat) (l0 : List (S50)) (a1 r : Int) (w : World) (hr0 : Kd.C k50 w A0 l0.length l0) (hc0 : l0.length ≤ c0) (h : laws_heldBranchS.f k l0 a1 = some r) :
  Calls Try.prog 29 #[Y A0 l0.length c0, I L a1] w fun e w' => e = .returned (I L r) ∧ Drawn0 w w' := by
 have HR0 := D hr0
 have HC0 := D hc0
 clear hr0 hc0
 have H : (laws_heldBranchS.l0 k l0 a1 0) = some r := h
 clear h
 have H' := D H
 clear H
 go_enter Try.func29, Try.ntmps29
 go_wp2
 go_loopg [1, 5] k (fun kq v1 v5 w' => ∃ (x1_1 : Int) (x5_1 : Int), v1 = I L x1_1 ∧ v5 = I L x5_1 ∧ Aside0 (laws_heldBranchS.l0 kq l0 x1_1 x5_1 = some r) ∧ Aside0 (kq ≤ k) ∧ Drawn0 w w')
 case atStart => exact ⟨(a1), (0), Z48, Z48, H', ⟨Nat.le_refl _⟩, by repeat (first | exact Drawn0.refl _ | apply Drawn0.step)⟩
 case round =>
  clear H'
  try clear c2
  try clear p2
  obtain ⟨x1_1, x5_1, rfl, rfl, HA, HK1, ⟨m1, rfl⟩⟩ := hrel
  cases gk with
  | zero => exact absurd HA.out (by simp [laws_heldBranchS.l0])
  | succ k1 =>
   have H := HA.out; clear HA; simp only [laws_heldBranchS.l0] at H
   by_cases c3 : x5_1 < (l0.length : Int)
   ·rw [if_pos c3] at H
    have c3b0 : decide (x5_1 < (l0.length : Int)) = true := decide_eq_true c3; clear c3
    by_cases c4 : 0 ≤ x5_1
    ·rw [if_pos c4] at H
     have c4b0:decide (0≤x5_1)=true:=decide_eq_true c4;clear c4;have HU5:=D H;clear H;have p538:0≤(x5_1:Int):=od_ Z47;have q538:x5_1 < (l0.length:Int):=od_ Z47;obtain ⟨ad538,A538_5,c538_5,e538,hx538_0,hx538_1,hx538_2,hx538_3,hx538_4,hx538_5,hl538_5,hi538_5⟩:=at_T50 HR0.out x5_1 p538 q538;cases e538;have HR538_5:=D hi538_5;have HC538_5:=D hl538_5;clear hi538_5 hl538_5;replace p538:=eq_true p538;replace q538:=eq_true q538
     go_upto_if 18 with (fail)
     have H := HU5.out; clear HU5
     by_cases c6 : ((rd_T50 l0 x5_1).f0) = x1_1
     ·rw [if_pos c6] at H
      have c6b0:(((rd_T50 l0 x5_1).f0) == x1_1)=true:=beq_iff_eq.mpr c6;have c6b1:(((rd_T50 l0 x5_1).f0) != x1_1)=false:=bne_eq_false_iff_eq.mpr c6;clear c6;refine rw_ c6b0 ?_;have HU7:=D H;clear H;have p539:0≤(x5_1:Int):=od_ Z47;have q539:x5_1 < (l0.length:Int):=od_ Z47;obtain ⟨ad539,A539_5,c539_5,e539,hx539_0,hx539_1,hx539_2,hx539_3,hx539_4,hx539_5,hl539_5,hi539_5⟩:=at_T50 HR0.out x5_1 p539 q539;obtain rfl:ad538=ad539:=(by injection e539);have HR539_5:=D hi539_5;have HC539_5:=D hl539_5;clear hi539_5 hl539_5;replace p539:=eq_true p539;replace q539:=eq_true q539;have ea_:=Option.some.inj (hx538_5.symm.trans hx539_5)
      injection ea_ with ea_ en_ ec_
      subst ea_; subst ec_; clear en_
      go_upto_if 28 with (fail)
      have H := HU7.out; clear HU7
      by_cases c8 : ((rd_T50 l0 x5_1).f1.f0) = (wrap64 (x1_1 + 1))
      ·rw [if_pos c8] at H
       have c8b0:(((rd_T50 l0 x5_1).f1.f0) == (wrap64 (x1_1 + 1)))=true:=beq_iff_eq.mpr c8;have c8b1:(((rd_T50 l0 x5_1).f1.f0) != (wrap64 (x1_1 + 1)))=false:=bne_eq_false_iff_eq.mpr c8;clear c8;refine rw_ c8b0 ?_;have HU9:=D H;clear H;have p540:0≤(x5_1:Int):=od_ Z47;have q540:x5_1 < (l0.length:Int):=od_ Z47;obtain ⟨ad540,A540_5,c540_5,e540,hx540_0,hx540_1,hx540_2,hx540_3,hx540_4,hx540_5,hl540_5,hi540_5⟩:=at_T50 HR0.out x5_1 p540 q540;obtain rfl:ad538=ad540:=(by injection e540);have HR540_5:=D hi540_5;have HC540_5:=D hl540_5;clear hi540_5 hl540_5;replace p540:=eq_true p540;replace q540:=eq_true q540;have ea_:=Option.some.inj (hx538_5.symm.trans hx540_5)
       injection ea_ with ea_ en_ ec_
       subst ea_; subst ec_; clear en_
       go_upto_if 39 with (fail)
       have H := HU9.out; clear HU9
       by_cases c10 : ((rd_T50 l0 x5_1).f1.f1.f0) = (wrap64 ((wrap64 (x1_1 + 1)) + 1))
       ·rw [if_pos c10] at H
        have c10b0:(((rd_T50 l0 x5_1).f1.f1.f0) == (wrap64 ((wrap64 (x1_1 + 1)) + 1)))=true:=beq_iff_eq.mpr c10;have c10b1:(((rd_T50 l0 x5_1).f1.f1.f0) != (wrap64 ((wrap64 (x1_1 + 1)) + 1)))=false:=bne_eq_false_iff_eq.mpr c10;clear c10;refine rw_ c10b0 ?_;have HU11:=D H;clear H;have p541:0≤(x5_1:Int):=od_ Z47;have q541:x5_1 < (l0.length:Int):=od_ Z47;obtain ⟨ad541,A541_5,c541_5,e541,hx541_0,hx541_1,hx541_2,hx541_3,hx541_4,hx541_5,hl541_5,hi541_5⟩:=at_T50 HR0.out x5_1 p541 q541;obtain rfl:ad538=ad541:=(by injection e541);have HR541_5:=D hi541_5;have HC541_5:=D hl541_5;clear hi541_5 hl541_5;replace p541:=eq_true p541;replace q541:=eq_true q541;have ea_:=Option.some.inj (hx538_5.symm.trans hx541_5)
        injection ea_ with ea_ en_ ec_
        subst ea_; subst ec_; clear en_
        go_upto_if 50 with (fail)
        have H := HU11.out; clear HU11
        by_cases c12 : ((rd_T50 l0 x5_1).f1.f1.f1) = (wrap64 ((wrap64 ((wrap64 (x1_1 + 1)) + 1)) + 1))
        ·rw [if_pos c12] at H
         have c12b0:(((rd_T50 l0 x5_1).f1.f1.f1) == (wrap64 ((wrap64 ((wrap64 (x1_1 + 1)) + 1)) + 1)))=true:=beq_iff_eq.mpr c12;have c12b1:(((rd_T50 l0 x5_1).f1.f1.f1) != (wrap64 ((wrap64 ((wrap64 (x1_1 + 1)) + 1)) + 1)))=false:=bne_eq_false_iff_eq.mpr c12;clear c12;refine rw_ c12b0 ?_;have HU13:=D H;clear H;have p542:0≤(x5_1:Int):=od_ Z47;have q542:x5_1 < (l0.length:Int):=od_ Z47;obtain ⟨ad542,A542_5,c542_5,e542,hx542_0,hx542_1,hx542_2,hx542_3,hx542_4,hx542_5,hl542_5,hi542_5⟩:=at_T50 HR0.out x5_1 p542 q542;obtain rfl:ad538=ad542:=(by injection e542);have HR542_5:=D hi542_5;have HC542_5:=D hl542_5;clear hi542_5 hl542_5;replace p542:=eq_true p542;replace q542:=eq_true q542;have ea_:=Option.some.inj (hx538_5.symm.trans hx542_5)
         injection ea_ with ea_ en_ ec_
         subst ea_; subst ec_; clear en_
         go_upto_if 61 with (fail)
         have H := HU13.out; clear HU13
         by_cases c14 : ((rd_T50 l0 x5_1).f1.f1.f2) = (wrap64 ((wrap64 ((wrap64 ((wrap64 (x1_1 + 1)) + 1)) + 1)) + 1))
         ·rw [if_pos c14] at H
          have c14b0:(((rd_T50 l0 x5_1).f1.f1.f2) == (wrap64 ((wrap64 ((wrap64 ((wrap64 (x1_1 + 1)) + 1)) + 1)) + 1)))=true:=beq_iff_eq.mpr c14;have c14b1:(((rd_T50 l0 x5_1).f1.f1.f2) != (wrap64 ((wrap64 ((wrap64 ((wrap64 (x1_1 + 1)) + 1)) + 1)) + 1)))=false:=bne_eq_false_iff_eq.mpr c14;clear c14;refine rw_ c14b0 ?_;obtain ⟨t544,A150,H⟩:=bs_.mp H;(try dsimp only at H);have A15:=D A150;clear A150;have HU16:=D H;clear H;have p543:0≤(x5_1:Int):=od_ Z47;have q543:x5_1 < (l0.length:Int):=od_ Z47;obtain ⟨ad543,A543_5,c543_5,e543,hx543_0,hx543_1,hx543_2,hx543_3,hx543_4,hx543_5,hl543_5,hi543_5⟩:=at_T50 HR0.out x5_1 p543 q543;obtain rfl:ad538=ad543:=(by injection e543);have HR543_5:=D hi543_5;have HC543_5:=D hl543_5;clear hi543_5 hl543_5;replace p543:=eq_true p543;replace q543:=eq_true q543;have ea_:=Option.some.inj (hx538_5.symm.trans hx543_5)
          injection ea_ with ea_ en_ ec_
          subst ea_; subst ec_; clear en_
          go_upto_if 73 with (first|((with_reducible refine gate_callee (f:=48) rfl ?_);refine goesL_ (some 71) rfl rfl Try.func48 (by kernel_rfl) rfl #[Y A538_5 ((rd_T50 l0 x5_1).f1.f2).length c538_5,I L (wrap64 ((wrap64 ((wrap64 ((wrap64 ((wrap64 (x1_1 + 1)) + 1)) + 1)) + 1)) + 1))] rfl Z18 ?_;(with_reducible refine (laws_heldKidS.calls k1 _ _ ((rd_T50 l0 x5_1).f1.f2) (wrap64 ((wrap64 ((wrap64 ((wrap64 ((wrap64 (x1_1 + 1)) + 1)) + 1)) + 1)) + 1)) t544 _ ?side1 ?side2 A15.out).mono ?_);(case side1=>exact pC_ HR543_5.out);(case side2=>exact HC543_5.out);rintro e w' ⟨rfl,⟨nd,rfl⟩⟩;refine ⟨_,rfl,?_⟩))
          have H := HU16.out; clear HU16
          by_cases c17 : t544 < 0
          ·rw [if_pos c17] at H
           have c17b0:decide (t544 < 0)=true:=decide_eq_true c17;clear c17;refine rw_ c17b0 ?_;obtain rfl:=Option.some.inj H
           go_wp2
           go_ret; exact ⟨by first | rfl | (simp; done) | (simp [*]; done), by repeat (first | exact Drawn0.refl _ | apply Drawn0.step)⟩
          ·rw [if_neg c17] at H
           have c17b0:decide (t544 < 0)=false:=decide_eq_false c17;clear c17;refine rw_ c17b0 ?_;have H':=D H;clear H
           go_wp2
           go_roundg k1
           case measure => have := HK1.out; omega
           case rel => exact ⟨(t544), (wrap64 (x5_1 + 1)), Z48, Z48, H', ⟨by have := HK1.out; omega⟩, by repeat (first | exact Drawn0.refl _ | apply Drawn0.step)⟩
         ·rw [if_neg c14] at H
          have c14b0:(((rd_T50 l0 x5_1).f1.f1.f2) == (wrap64 ((wrap64 ((wrap64 ((wrap64 (x1_1 + 1)) + 1)) + 1)) + 1)))=false:=beq_eq_false_iff_ne.mpr c14;have c14b1:(((rd_T50 l0 x5_1).f1.f1.f2) != (wrap64 ((wrap64 ((wrap64 ((wrap64 (x1_1 + 1)) + 1)) + 1)) + 1)))=true:=bne_iff_ne.mpr c14;refine rw_ c14b0 ?_;obtain rfl:=Option.some.inj H
          go_wp2
          go_ret; exact ⟨by first | rfl | (simp; done) | (simp [*]; done), by repeat (first | exact Drawn0.refl _ | apply Drawn0.step)⟩
        ·rw [if_neg c12] at H
         have c12b0:(((rd_T50 l0 x5_1).f1.f1.f1) == (wrap64 ((wrap64 ((wrap64 (x1_1 + 1)) + 1)) + 1)))=false:=beq_eq_false_iff_ne.mpr c12;have c12b1:(((rd_T50 l0 x5_1).f1.f1.f1) != (wrap64 ((wrap64 ((wrap64 (x1_1 + 1)) + 1)) + 1)))=true:=bne_iff_ne.mpr c12;refine rw_ c12b0 ?_;obtain rfl:=Option.some.inj H
         go_wp2
         go_ret; exact ⟨by first | rfl | (simp; done) | (simp [*]; done), by repeat (first | exact Drawn0.refl _ | apply Drawn0.step)⟩
       ·rw [if_neg c10] at H
        have c10b0:(((rd_T50 l0 x5_1).f1.f1.f0) == (wrap64 ((wrap64 (x1_1 + 1)) + 1)))=false:=beq_eq_false_iff_ne.mpr c10;have c10b1:(((rd_T50 l0 x5_1).f1.f1.f0) != (wrap64 ((wrap64 (x1_1 + 1)) + 1)))=true:=bne_iff_ne.mpr c10;refine rw_ c10b0 ?_;obtain rfl:=Option.some.inj H
        go_wp2
        go_ret; exact ⟨by first | rfl | (simp; done) | (simp [*]; done), by repeat (first | exact Drawn0.refl _ | apply Drawn0.step)⟩
      ·rw [if_neg c8] at H
       have c8b0:(((rd_T50 l0 x5_1).f1.f0) == (wrap64 (x1_1 + 1)))=false:=beq_eq_false_iff_ne.mpr c8;have c8b1:(((rd_T50 l0 x5_1).f1.f0) != (wrap64 (x1_1 + 1)))=true:=bne_iff_ne.mpr c8;refine rw_ c8b0 ?_;obtain rfl:=Option.some.inj H
       go_wp2
       go_ret; exact ⟨by first | rfl | (simp; done) | (simp [*]; done), by repeat (first | exact Drawn0.refl _ | apply Drawn0.step)⟩
     ·rw [if_neg c6] at H
      have c6b0:(((rd_T50 l0 x5_1).f0) == x1_1)=false:=beq_eq_false_iff_ne.mpr c6;have c6b1:(((rd_T50 l0 x5_1).f0) != x1_1)=true:=bne_iff_ne.mpr c6;refine rw_ c6b0 ?_;obtain rfl:=Option.some.inj H
      go_wp2
      go_ret; exact ⟨by first | rfl | (simp; done) | (simp [*]; done), by repeat (first | exact Drawn0.refl _ | apply Drawn0.step)⟩
    ·rw [if_neg c4] at H
     exact absurd H (by simp)
   ·rw [if_neg c3] at H
    have c3b0 : decide (x5_1 < (l0.length : Int)) = false := decide_eq_false c3; clear c3; obtain rfl := Option.some.inj H
    go_wp2
    go_ret; exact ⟨by first | rfl | (simp; done) | (simp [*]; done), by repeat (first | exact Drawn0.refl _ | apply Drawn0.step)⟩

/-! ### laws_heldTree: function 10 -/
def laws_heldTree.f (k : Nat) (a0_0 a0_1 a0_2 a0_3 : Int) (l0_4 : List (S70)) (l0_5 : List (S50)) (a1 : Int) : Option (Int) := (laws_heldFair.f k a0_0 a0_1 a0_2 a0_3 l0_4 a1).bind fun t546 => (if t546 < 0 then (some (-1)) else ((laws_heldBranchS.f k l0_5 t546).bind fun t547 => (if t547 < 0 then (some (-1)) else (some t547))))
set_option maxHeartbeats 8000000 in
set_option maxRecDepth 100000 in
theorem laws_heldTree.calls (k : Nat) (a0_0 a0_1 a0_2 a0_3 : Int) (A0_4 : Option Addr) (c0_4 : Nat) (l0_4 : List (S70)) (A0_5 : Option Addr) (c0_5 : Nat) (l0_5 : List (S50)) (a1 r : Int) (w : World) (hr0_4 : Kd.C k70 w A0_4 l0_4.length l0_4) (hc0_4 : l0_4.length ≤ c0_4) (hr0_5 : Kd.C k50 w A0_5 l0_5.length l0_5) (hc0_5 : l0_5.length ≤ c0_5) (h : laws_heldTree.f k a0_0 a0_1 a0_2 a0_3 l0_4 l0_5 a1 = some r) :
  Calls Try.prog 10 #[.agg #[I L a0_0,I L a0_1,I L a0_2,I L a0_3,Y A0_4 l0_4.length c0_4,Y A0_5 l0_5.length c0_5],I L a1] w fun e w'=>e=.returned (I L r)∧Below w.heap.size w w':=by
 have hu37 := Try.underlying37
 have hu34 := Try.underlying34
 have HR0_4 := D hr0_4
 have HC0_4 := D hc0_4
 clear hr0_4 hc0_4
 have HR0_5 := D hr0_5
 have HC0_5 := D hc0_5
 clear hr0_5 hc0_5
 have HB := D (Below.refl w.heap.size w)
 have H:((laws_heldFair.f k a0_0 a0_1 a0_2 a0_3 l0_4 a1).bind fun t546=>(if t546 < 0 then (some (-1)) else ((laws_heldBranchS.f k l0_5 t546).bind fun t547=>(if t547 < 0 then (some (-1)) else (some t547)))))=some r:=h
 clear h
 obtain ⟨t546, A30, H⟩ := bs_.mp H
 (try dsimp only at H)
 have A3 := D A30
 clear A30
 have HU4 := D H
 clear H
 go_enter Try.func10, Try.ntmps10
 go_upto_if 10 with (first|((with_reducible refine gate_dst (N:=2) rfl ?_);refine bx_ (N:=2) (cs:=#[I L a0_0,I L a0_1,I L a0_2,I L a0_3,Y A0_4 l0_4.length c0_4,Y A0_5 l0_5.length c0_5]) (t:=37) ?_;intro gb545 hg w5 hbox hb;have n_:=an_ (below_step (pB_ HB.out) hb)<|an_ (hbox)<|an_ (bg_ hg (pB_ HB.out):w.heap.size≤gb545)<|D (bg_ hg (pB_ HB.out):w.heap.size≤gb545);clear HB;obtain ⟨HB,BK545,GW545,GE545⟩:=n_;clear hb hbox hg;obtain ⟨hcz6_0,hcz6_1,hcz6_2,hcz6_3,hcz6_4,hcz6_5,hfz6_0,hfz6_1,hfz6_2,hfz6_3,hfz6_4,hfz6_5⟩:=cells6 BK545.out)|((with_reducible refine gate_callee (f:=28) rfl ?_);refine goesL_ (some 8) rfl rfl Try.func28 (by kernel_rfl) rfl #[.agg #[I L a0_0,I L a0_1,I L a0_2,I L a0_3,Y A0_4 l0_4.length c0_4],I L a1] rfl Z18 ?_;(with_reducible refine (laws_heldFair.calls k a0_0 a0_1 a0_2 a0_3 _ _ l0_4 a1 t546 _ ?side1 ?side2 A3.out).mono ?_);(case side1=>exact pC_ (Kd.C_below HR0_4.out HB.out));(case side2=>exact HC0_4.out);rintro e w7 ⟨rfl,hb⟩;refine ⟨_,rfl,?_⟩;have n_:=an_ (blk_below (pk_ BK545.out) hb)<|D (below_step (pB_ HB.out) hb);clear BK545 HB;obtain ⟨BK545,HB⟩:=n_;(try clear hb)))
 have H := HU4.out
 clear HU4
 by_cases c8 : t546 < 0
 ·rw [if_pos c8] at H
  have c8b0:decide (t546 < 0)=true:=decide_eq_true c8;clear c8;refine rw_ c8b0 ?_;obtain rfl:=Option.some.inj H
  go_wp2
  go_ret; exact ⟨er_, pB_ HB.out⟩
 ·rw [if_neg c8] at H
  have c8b0:decide (t546 < 0)=false:=decide_eq_false c8;clear c8;refine rw_ c8b0 ?_;obtain ⟨t547,A90,H⟩:=bs_.mp H;(try dsimp only at H);have A9:=D A90;clear A90;have HU10:=D H;clear H;obtain ⟨hcz11_0,hcz11_1,hcz11_2,hcz11_3,hcz11_4,hcz11_5,hfz11_0,hfz11_1,hfz11_2,hfz11_3,hfz11_4,hfz11_5⟩:=cells6 BK545.out
  go_upto_if 16 with (first|((with_reducible refine gate_callee (f:=29) rfl ?_);refine goesL_ (some 14) rfl rfl Try.func29 (by kernel_rfl) rfl #[Y A0_5 l0_5.length c0_5,I L t546] rfl Z18 ?_;(with_reducible refine (laws_heldBranchS.calls k _ _ l0_5 t546 t547 _ ?side1 ?side2 A9.out).mono ?_);(case side1=>exact pC_ (Kd.C_below HR0_5.out HB.out));(case side2=>exact HC0_5.out);rintro e w' ⟨rfl,⟨nd,rfl⟩⟩;refine ⟨_,rfl,?_⟩))
  have H := HU10.out; clear HU10
  by_cases c12 : t547 < 0
  ·rw [if_pos c12] at H
   have c12b0:decide (t547 < 0)=true:=decide_eq_true c12;clear c12;refine rw_ c12b0 ?_;obtain rfl:=Option.some.inj H
   go_wp2
   go_ret; exact ⟨er_, pB_ HB.out⟩
  ·rw [if_neg c12] at H
   have c12b0:decide (t547 < 0)=false:=decide_eq_false c12;clear c12;refine rw_ c12b0 ?_;obtain rfl:=Option.some.inj H
   go_wp2
   go_ret; exact ⟨er_, pB_ HB.out⟩

end Go.Proofs.Ytolphjnajopknab.PFnExactTreeRest
