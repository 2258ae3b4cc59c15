-- by a program of this session's, over the kit's words
import Derived.Test.YtolphjnajopknaaPZFnExactTreeRebase
import Derived.Test.YtolphjnajopknaaPFnExactTreeRebasex0
namespace Go.Proofs.Ytolphjnajopknaa.PFnExactTreeRebase
open Go.RowKit Go.Proofs.YtolphjnajopknaaW.PrintWords Go.Proofs.YtolphjnajopknaaW.PrintLast Go.Proofs.YtolphjnajopknaaW.PrintMore Go.Proofs.YtolphjnajopknaaV Go.Proofs.Ytolphjnajopknaa.ZFnExactTreeRebase
attribute [local go_sem] max2_int min2_int max_two min_two max_three min_three max_four min_four   -- for this text's walks alone
set_option linter.unusedVariables false
set_option linter.unusedSimpArgs false

/-! ### laws_heldKidS: function 45 -/
def laws_heldKidS.l0 : Nat → List (S61) → Int → Int → Option (Int)
 | 0, _, _, _ => none
 | k + 1,x0,x1,x5=>if x5 < (x0.length:Int) then (if 0≤x5 then (if ((rd_T61 x0 x5).f0)=x1 then (if ((rd_T61 x0 x5).f1)=(wrap64 (x1 + 1)) then (if (((rd_T61 x0 x5).f2) != ((Int.tmod (wrap64 ((wrap64 (x1 + 1)) + 1)) 3) == 0))=true then (some (-1)) else (if ((rd_T61 x0 x5).f3.f0)=(wrap64 ((wrap64 ((wrap64 (x1 + 1)) + 1)) + 1)) then (if ((rd_T61 x0 x5).f3.f1)=(wrap64 ((wrap64 ((wrap64 ((wrap64 (x1 + 1)) + 1)) + 1)) + 1)) then (if ((rd_T61 x0 x5).f3.f2)=(wrap64 ((wrap64 ((wrap64 ((wrap64 ((wrap64 (x1 + 1)) + 1)) + 1)) + 1)) + 1)) then (laws_heldKidS.l0 k x0 (wrap64 ((wrap64 ((wrap64 ((wrap64 ((wrap64 ((wrap64 (x1 + 1)) + 1)) + 1)) + 1)) + 1)) + 1)) (wrap64 (x5 + 1))) else (some (-1))) else (some (-1))) else (some (-1)))) else (some (-1))) else (some (-1))) else (none)) else (some x1)
def laws_heldKidS.f (k : Nat) (l0 : List (S61)) (a1 : Int) : Option (Int) := laws_heldKidS.l0 k l0 a1 0
set_option maxHeartbeats 8000000 in
set_option maxRecDepth 100000 in
theorem laws_heldKidS.calls (k : Nat) (A0 : Option Addr) (c0 : Nat) (l0 : List (S61)) (a1 : Int) (r : Int) (w : World) (hr0 : Kd.C k61 w A0 l0.length l0) (hc0 : l0.length ≤ c0) (h : laws_heldKidS.f k l0 a1 = some r) :
  Calls Try.prog 45 #[.slice A0 l0.length c0, .int .i64 a1] w fun e w' => e = .returned (.int .i64 r) ∧ Drawn0 w w' := by
 have HR0 := Aside0.mk hr0
 have HC0 := Aside0.mk hc0
 clear hr0 hc0
 have H : (laws_heldKidS.l0 k l0 a1 0) = some r := h
 clear h
 have H' := Aside0.mk H
 clear H
 go_enter Try.func45, Try.ntmps45
 go_wp2
 go_loopg [1, 5] k (fun kq v1 v5 w' => ∃ (x1_1 : Int) (x5_1 : Int), v1 = .int .i64 x1_1 ∧ v5 = .int .i64 x5_1 ∧ Aside0 (laws_heldKidS.l0 kq l0 x1_1 x5_1 = some r) ∧ Aside0 (kq ≤ k) ∧ Drawn0 w w')
 case atStart => exact ⟨(a1), (0), Z27, Z27, H', ⟨Nat.le_refl _⟩, by repeat (first | exact Drawn0.refl _ | apply Drawn0.step)⟩
 case round =>
  clear H'
  try clear p2
  obtain ⟨x1_1, x5_1, rfl, rfl, HA, HK1, ⟨m1, rfl⟩⟩ := hrel
  cases gk with
  | zero => exact absurd HA.out (by simp [laws_heldKidS.l0])
  | succ k1 =>
   have H := HA.out; clear HA; simp only [laws_heldKidS.l0] at H
   by_cases c3 : x5_1 < (l0.length : Int)
   ·rw [if_pos c3] at H
    have c3b0 : decide (x5_1 < (l0.length : Int)) = true := decide_eq_true c3; clear c3
    by_cases c4 : 0 ≤ x5_1
    ·rw [if_pos c4] at H
     have c4b0:decide (0≤x5_1)=true:=decide_eq_true c4;clear c4;have HU5:=Aside0.mk H;clear H;have p466:0≤(x5_1:Int):=of_decide_eq_true Z26;have q466:x5_1 < (l0.length:Int):=of_decide_eq_true Z26;obtain ⟨ad466,e466,hx466_0,hx466_1,hx466_2,hx466_3,hx466_4,hx466_5⟩:=at_T61 HR0.out x5_1 p466 q466;cases e466;replace p466:=eq_true p466;replace q466:=eq_true q466
     go_upto_if 18 with (fail)
     have H := HU5.out; clear HU5
     by_cases c6 : ((rd_T61 l0 x5_1).f0) = x1_1
     ·rw [if_pos c6] at H
      have c6b0:(((rd_T61 l0 x5_1).f0) == x1_1)=true:=beq_iff_eq.mpr c6;have c6b1:(((rd_T61 l0 x5_1).f0) != x1_1)=false:=bne_eq_false_iff_eq.mpr c6;clear c6;(first|rw [c6b0]|(simp only [i64_w,i32_w];rw [c6b0])|(have cz_:=c6b0;simp only [bne,gt_iff_lt,Int.natCast_pos] at cz_;first|rw [cz_]|(simp only [i64_w,i32_w];rw [cz_]))|skip);have HU7:=Aside0.mk H;clear H;have p467:0≤(x5_1:Int):=of_decide_eq_true Z26;have q467:x5_1 < (l0.length:Int):=of_decide_eq_true Z26;obtain ⟨ad467,e467,hx467_0,hx467_1,hx467_2,hx467_3,hx467_4,hx467_5⟩:=at_T61 HR0.out x5_1 p467 q467;obtain rfl:ad466=ad467:=(by injection e467);replace p467:=eq_true p467;replace q467:=eq_true q467
      go_upto_if 27 with (fail)
      have H := HU7.out; clear HU7
      by_cases c8 : ((rd_T61 l0 x5_1).f1) = (wrap64 (x1_1 + 1))
      ·rw [if_pos c8] at H
       have c8b0:(((rd_T61 l0 x5_1).f1) == (wrap64 (x1_1 + 1)))=true:=beq_iff_eq.mpr c8;have c8b1:(((rd_T61 l0 x5_1).f1) != (wrap64 (x1_1 + 1)))=false:=bne_eq_false_iff_eq.mpr c8;clear c8;(first|rw [c8b0]|(simp only [i64_w,i32_w];rw [c8b0])|(have cz_:=c8b0;simp only [bne,gt_iff_lt,Int.natCast_pos] at cz_;first|rw [cz_]|(simp only [i64_w,i32_w];rw [cz_]))|skip);have HU9:=Aside0.mk H;clear H;have p468:0≤(x5_1:Int):=of_decide_eq_true Z26;have q468:x5_1 < (l0.length:Int):=of_decide_eq_true Z26;obtain ⟨ad468,e468,hx468_0,hx468_1,hx468_2,hx468_3,hx468_4,hx468_5⟩:=at_T61 HR0.out x5_1 p468 q468;obtain rfl:ad466=ad468:=(by injection e468);replace p468:=eq_true p468;replace q468:=eq_true q468
       go_upto_if 38 with (fail)
       have H := HU9.out; clear HU9
       by_cases c10 : (((rd_T61 l0 x5_1).f2) != ((Int.tmod (wrap64 ((wrap64 (x1_1 + 1)) + 1)) 3) == 0)) = true
       ·rw [if_pos c10] at H
        have c10b0:(((rd_T61 l0 x5_1).f2) != ((Int.tmod (wrap64 ((wrap64 (x1_1 + 1)) + 1)) 3) == 0))=true:=c10;(try (have c10b1:decide (((rd_T61 l0 x5_1).f2)=((Int.tmod (wrap64 ((wrap64 (x1_1 + 1)) + 1)) 3) == 0))=false:=by simpa using c10));(try (have c10b2:(((rd_T61 l0 x5_1).f2) == ((Int.tmod (wrap64 ((wrap64 (x1_1 + 1)) + 1)) 3) == 0))=false:=by simpa using c10));(try (have c10b3:¬ (((rd_T61 l0 x5_1).f2)=((Int.tmod (wrap64 ((wrap64 (x1_1 + 1)) + 1)) 3) == 0)):=by simpa using c10));clear c10;(first|rw [c10b0]|(simp only [i64_w,i32_w];rw [c10b0])|(have cz_:=c10b0;simp only [bne,gt_iff_lt,Int.natCast_pos] at cz_;first|rw [cz_]|(simp only [i64_w,i32_w];rw [cz_]))|skip);obtain rfl:=Option.some.inj H
        go_wp2
        go_ret; exact ⟨by first | rfl | (simp; done) | (simp [*]; done), by repeat (first | exact Drawn0.refl _ | apply Drawn0.step)⟩
       ·rw [if_neg c10] at H
        have c10b0 : (((rd_T61 l0 x5_1).f2) != ((Int.tmod (wrap64 ((wrap64 (x1_1 + 1)) + 1)) 3) == 0)) = false := by simpa using c10
        (try (have c10b1:decide (((rd_T61 l0 x5_1).f2)=((Int.tmod (wrap64 ((wrap64 (x1_1 + 1)) + 1)) 3) == 0))=true:=by simpa using c10));(try (have c10b2:(((rd_T61 l0 x5_1).f2) == ((Int.tmod (wrap64 ((wrap64 (x1_1 + 1)) + 1)) 3) == 0))=true:=by simpa using c10));clear c10;(first|rw [c10b0]|(simp only [i64_w,i32_w];rw [c10b0])|(have cz_:=c10b0;simp only [bne,gt_iff_lt,Int.natCast_pos] at cz_;first|rw [cz_]|(simp only [i64_w,i32_w];rw [cz_]))|skip);have HU11:=Aside0.mk H;clear H;have p469:0≤(x5_1:Int):=of_decide_eq_true Z26;have q469:x5_1 < (l0.length:Int):=of_decide_eq_true Z26;obtain ⟨ad469,e469,hx469_0,hx469_1,hx469_2,hx469_3,hx469_4,hx469_5⟩:=at_T61 HR0.out x5_1 p469 q469;obtain rfl:ad466=ad469:=(by injection e469);replace p469:=eq_true p469;replace q469:=eq_true q469
        go_upto_if 48 with (fail)
        have H := HU11.out; clear HU11
        by_cases c12 : ((rd_T61 l0 x5_1).f3.f0) = (wrap64 ((wrap64 ((wrap64 (x1_1 + 1)) + 1)) + 1))
        ·rw [if_pos c12] at H
         have c12b0:(((rd_T61 l0 x5_1).f3.f0) == (wrap64 ((wrap64 ((wrap64 (x1_1 + 1)) + 1)) + 1)))=true:=beq_iff_eq.mpr c12;have c12b1:(((rd_T61 l0 x5_1).f3.f0) != (wrap64 ((wrap64 ((wrap64 (x1_1 + 1)) + 1)) + 1)))=false:=bne_eq_false_iff_eq.mpr c12;clear c12;(first|rw [c12b0]|(simp only [i64_w,i32_w];rw [c12b0])|(have cz_:=c12b0;simp only [bne,gt_iff_lt,Int.natCast_pos] at cz_;first|rw [cz_]|(simp only [i64_w,i32_w];rw [cz_]))|skip);have HU13:=Aside0.mk H;clear H;have p470:0≤(x5_1:Int):=of_decide_eq_true Z26;have q470:x5_1 < (l0.length:Int):=of_decide_eq_true Z26;obtain ⟨ad470,e470,hx470_0,hx470_1,hx470_2,hx470_3,hx470_4,hx470_5⟩:=at_T61 HR0.out x5_1 p470 q470;obtain rfl:ad466=ad470:=(by injection e470);replace p470:=eq_true p470;replace q470:=eq_true q470
         go_upto_if 58 with (fail)
         have H := HU13.out; clear HU13
         by_cases c14 : ((rd_T61 l0 x5_1).f3.f1) = (wrap64 ((wrap64 ((wrap64 ((wrap64 (x1_1 + 1)) + 1)) + 1)) + 1))
         ·rw [if_pos c14] at H
          have c14b0:(((rd_T61 l0 x5_1).f3.f1) == (wrap64 ((wrap64 ((wrap64 ((wrap64 (x1_1 + 1)) + 1)) + 1)) + 1)))=true:=beq_iff_eq.mpr c14;have c14b1:(((rd_T61 l0 x5_1).f3.f1) != (wrap64 ((wrap64 ((wrap64 ((wrap64 (x1_1 + 1)) + 1)) + 1)) + 1)))=false:=bne_eq_false_iff_eq.mpr c14;clear c14;(first|rw [c14b0]|(simp only [i64_w,i32_w];rw [c14b0])|(have cz_:=c14b0;simp only [bne,gt_iff_lt,Int.natCast_pos] at cz_;first|rw [cz_]|(simp only [i64_w,i32_w];rw [cz_]))|skip);have HU15:=Aside0.mk H;clear H;have p471:0≤(x5_1:Int):=of_decide_eq_true Z26;have q471:x5_1 < (l0.length:Int):=of_decide_eq_true Z26;obtain ⟨ad471,e471,hx471_0,hx471_1,hx471_2,hx471_3,hx471_4,hx471_5⟩:=at_T61 HR0.out x5_1 p471 q471;obtain rfl:ad466=ad471:=(by injection e471);replace p471:=eq_true p471;replace q471:=eq_true q471
          go_upto_if 68 with (fail)
          have H := HU15.out; clear HU15
          by_cases c16 : ((rd_T61 l0 x5_1).f3.f2) = (wrap64 ((wrap64 ((wrap64 ((wrap64 ((wrap64 (x1_1 + 1)) + 1)) + 1)) + 1)) + 1))
          ·rw [if_pos c16] at H
           have c16b0:(((rd_T61 l0 x5_1).f3.f2) == (wrap64 ((wrap64 ((wrap64 ((wrap64 ((wrap64 (x1_1 + 1)) + 1)) + 1)) + 1)) + 1)))=true:=beq_iff_eq.mpr c16;have c16b1:(((rd_T61 l0 x5_1).f3.f2) != (wrap64 ((wrap64 ((wrap64 ((wrap64 ((wrap64 (x1_1 + 1)) + 1)) + 1)) + 1)) + 1)))=false:=bne_eq_false_iff_eq.mpr c16;clear c16;(first|rw [c16b0]|(simp only [i64_w,i32_w];rw [c16b0])|(have cz_:=c16b0;simp only [bne,gt_iff_lt,Int.natCast_pos] at cz_;first|rw [cz_]|(simp only [i64_w,i32_w];rw [cz_]))|skip);have H':=Aside0.mk H;clear H
           go_wp2
           go_roundg k1
           case measure => have := HK1.out; omega
           case rel=>exact ⟨(wrap64 ((wrap64 ((wrap64 ((wrap64 ((wrap64 ((wrap64 (x1_1 + 1)) + 1)) + 1)) + 1)) + 1)) + 1)),(wrap64 (x5_1 + 1)),Z27,Z27,H',⟨by have:=HK1.out;omega⟩,by repeat (first|exact Drawn0.refl _|apply Drawn0.step)⟩
          ·rw [if_neg c16] at H
           have c16b0:(((rd_T61 l0 x5_1).f3.f2) == (wrap64 ((wrap64 ((wrap64 ((wrap64 ((wrap64 (x1_1 + 1)) + 1)) + 1)) + 1)) + 1)))=false:=beq_eq_false_iff_ne.mpr c16;have c16b1:(((rd_T61 l0 x5_1).f3.f2) != (wrap64 ((wrap64 ((wrap64 ((wrap64 ((wrap64 (x1_1 + 1)) + 1)) + 1)) + 1)) + 1)))=true:=bne_iff_ne.mpr c16;(first|rw [c16b0]|(simp only [i64_w,i32_w];rw [c16b0])|(have cz_:=c16b0;simp only [bne,gt_iff_lt,Int.natCast_pos] at cz_;first|rw [cz_]|(simp only [i64_w,i32_w];rw [cz_]))|skip);obtain rfl:=Option.some.inj H
           go_wp2
           go_ret; exact ⟨by first | rfl | (simp; done) | (simp [*]; done), by repeat (first | exact Drawn0.refl _ | apply Drawn0.step)⟩
         ·rw [if_neg c14] at H
          have c14b0:(((rd_T61 l0 x5_1).f3.f1) == (wrap64 ((wrap64 ((wrap64 ((wrap64 (x1_1 + 1)) + 1)) + 1)) + 1)))=false:=beq_eq_false_iff_ne.mpr c14;have c14b1:(((rd_T61 l0 x5_1).f3.f1) != (wrap64 ((wrap64 ((wrap64 ((wrap64 (x1_1 + 1)) + 1)) + 1)) + 1)))=true:=bne_iff_ne.mpr c14;(first|rw [c14b0]|(simp only [i64_w,i32_w];rw [c14b0])|(have cz_:=c14b0;simp only [bne,gt_iff_lt,Int.natCast_pos] at cz_;first|rw [cz_]|(simp only [i64_w,i32_w];rw [cz_]))|skip);obtain rfl:=Option.some.inj H
          go_wp2
          go_ret; exact ⟨by first | rfl | (simp; done) | (simp [*]; done), by repeat (first | exact Drawn0.refl _ | apply Drawn0.step)⟩
        ·rw [if_neg c12] at H
         have c12b0:(((rd_T61 l0 x5_1).f3.f0) == (wrap64 ((wrap64 ((wrap64 (x1_1 + 1)) + 1)) + 1)))=false:=beq_eq_false_iff_ne.mpr c12;have c12b1:(((rd_T61 l0 x5_1).f3.f0) != (wrap64 ((wrap64 ((wrap64 (x1_1 + 1)) + 1)) + 1)))=true:=bne_iff_ne.mpr c12;(first|rw [c12b0]|(simp only [i64_w,i32_w];rw [c12b0])|(have cz_:=c12b0;simp only [bne,gt_iff_lt,Int.natCast_pos] at cz_;first|rw [cz_]|(simp only [i64_w,i32_w];rw [cz_]))|skip);obtain rfl:=Option.some.inj H
         go_wp2
         go_ret; exact ⟨by first | rfl | (simp; done) | (simp [*]; done), by repeat (first | exact Drawn0.refl _ | apply Drawn0.step)⟩
      ·rw [if_neg c8] at H
       have c8b0:(((rd_T61 l0 x5_1).f1) == (wrap64 (x1_1 + 1)))=false:=beq_eq_false_iff_ne.mpr c8;have c8b1:(((rd_T61 l0 x5_1).f1) != (wrap64 (x1_1 + 1)))=true:=bne_iff_ne.mpr c8;(first|rw [c8b0]|(simp only [i64_w,i32_w];rw [c8b0])|(have cz_:=c8b0;simp only [bne,gt_iff_lt,Int.natCast_pos] at cz_;first|rw [cz_]|(simp only [i64_w,i32_w];rw [cz_]))|skip);obtain rfl:=Option.some.inj H
       go_wp2
       go_ret; exact ⟨by first | rfl | (simp; done) | (simp [*]; done), by repeat (first | exact Drawn0.refl _ | apply Drawn0.step)⟩
     ·rw [if_neg c6] at H
      have c6b0:(((rd_T61 l0 x5_1).f0) == x1_1)=false:=beq_eq_false_iff_ne.mpr c6;have c6b1:(((rd_T61 l0 x5_1).f0) != x1_1)=true:=bne_iff_ne.mpr c6;(first|rw [c6b0]|(simp only [i64_w,i32_w];rw [c6b0])|(have cz_:=c6b0;simp only [bne,gt_iff_lt,Int.natCast_pos] at cz_;first|rw [cz_]|(simp only [i64_w,i32_w];rw [cz_]))|skip);obtain rfl:=Option.some.inj H
      go_wp2
      go_ret; exact ⟨by first | rfl | (simp; done) | (simp [*]; done), by repeat (first | exact Drawn0.refl _ | apply Drawn0.step)⟩
    ·rw [if_neg c4] at H
     exact absurd H (by simp)
   ·rw [if_neg c3] at H
    have c3b0 : decide (x5_1 < (l0.length : Int)) = false := decide_eq_false c3; clear c3; obtain rfl := Option.some.inj H
    go_wp2
    go_ret; exact ⟨by first | rfl | (simp; done) | (simp [*]; done), by repeat (first | exact Drawn0.refl _ | apply Drawn0.step)⟩

/-! ### laws_heldFair: function 24 -/
def laws_heldFair.f (k : Nat) (a0_0 : Int) (a0_1 : Int) (a0_2 : Int) (a0_3 : Int) (l0_4 : List (S61)) (a1 : Int) : Option (Int) := (laws_heldKidS.f k l0_4 a1).bind fun t473 => (if t473 < 0 then (some (-1)) else (some t473))
set_option maxHeartbeats 8000000 in
set_option maxRecDepth 100000 in
theorem laws_heldFair.calls (k : Nat) (a0_0 : Int) (a0_1 : Int) (a0_2 : Int) (a0_3 : Int) (A0_4 : Option Addr) (c0_4 : Nat) (l0_4 : List (S61)) (a1 : Int) (r : Int) (w : World) (hr0_4 : Kd.C k61 w A0_4 l0_4.length l0_4) (hc0_4 : l0_4.length ≤ c0_4) (h : laws_heldFair.f k a0_0 a0_1 a0_2 a0_3 l0_4 a1 = some r) :
  Calls Try.prog 24 #[.agg #[.int .i64 a0_0,.int .i64 a0_1,.int .i64 a0_2,.int .i64 a0_3,.slice A0_4 l0_4.length c0_4],.int .i64 a1] w fun e w'=>e=.returned (.int .i64 r)∧Below w.heap.size w w':=by
 have hu34 := Try.underlying34
 have HR0_4 := Aside0.mk hr0_4
 have HC0_4 := Aside0.mk hc0_4
 clear hr0_4 hc0_4
 have HB := Aside0.mk (Below.refl w.heap.size w)
 have H : ((laws_heldKidS.f k l0_4 a1).bind fun t473 => (if t473 < 0 then (some (-1)) else (some t473))) = some r := h
 clear h
 obtain ⟨t473, A30, H⟩ := Option.bind_eq_some_iff.mp H
 (try dsimp only at H)
 have A3 := Aside0.mk A30
 clear A30
 have HU4 := Aside0.mk H
 clear H
 go_enter Try.func24, Try.ntmps24
 go_upto_if 10 with (first|((with_reducible refine gate_dst (N:=2) rfl ?_);refine box_event ?hg (N:=2) ?hd (cs:=#[.int .i64 a0_0,.int .i64 a0_1,.int .i64 a0_2,.int .i64 a0_3,.slice A0_4 l0_4.length c0_4]) (t:=34) ?hr ?_;(case hd=>rfl);(case hg=>rfl);(case hr=>first|(go_simp;done)|(go_simp;rfl));intro gb472 hg w5 hbox hb;have n_:=an_ (below_step (pB_ HB.out) hb)<|an_ (hbox)<|an_ ((by rw [hg];exact (below_size (pB_ HB.out)):w.heap.size≤gb472))<|Aside0.mk ((by rw [hg];exact (below_size (pB_ HB.out)):w.heap.size≤gb472));clear HB;obtain ⟨HB,BK472,GW472,GE472⟩:=n_;clear hb hbox hg;obtain ⟨hcz6_0,hcz6_1,hcz6_2,hcz6_3,hcz6_4,hfz6_0,hfz6_1,hfz6_2,hfz6_3,hfz6_4⟩:=cells5 BK472.out)|((with_reducible refine gate_callee (f:=45) rfl ?_);refine goesL_ (some 8) rfl rfl Try.func45 (by kernel_rfl) rfl #[.slice A0_4 l0_4.length c0_4,.int .i64 a1] rfl Z8 ?_;(with_reducible refine (laws_heldKidS.calls k _ _ l0_4 a1 t473 _ ?side1 ?side2 A3.out).mono ?_);(case side1=>exact pC_ (Kd.C_below HR0_4.out HB.out));(case side2=>exact HC0_4.out);rintro e w' ⟨rfl,⟨nd,rfl⟩⟩;refine ⟨_,rfl,?_⟩))
 have H := HU4.out
 clear HU4
 by_cases c7 : t473 < 0
 ·rw [if_pos c7] at H
  have c7b0:decide (t473 < 0)=true:=decide_eq_true c7;clear c7;(first|rw [c7b0]|(simp only [i64_w,i32_w];rw [c7b0])|(have cz_:=c7b0;simp only [bne,gt_iff_lt,Int.natCast_pos] at cz_;first|rw [cz_]|(simp only [i64_w,i32_w];rw [cz_]))|skip);obtain rfl:=Option.some.inj H
  go_wp2
  go_ret; exact ⟨by first | rfl | (simp [errW_none, errW_some] <;> rfl) | (simp [*, errW_none, errW_some] <;> rfl), pB_ HB.out⟩
 ·rw [if_neg c7] at H
  have c7b0:decide (t473 < 0)=false:=decide_eq_false c7;clear c7;(first|rw [c7b0]|(simp only [i64_w,i32_w];rw [c7b0])|(have cz_:=c7b0;simp only [bne,gt_iff_lt,Int.natCast_pos] at cz_;first|rw [cz_]|(simp only [i64_w,i32_w];rw [cz_]))|skip);obtain rfl:=Option.some.inj H
  go_wp2
  go_ret; exact ⟨by first | rfl | (simp [errW_none, errW_some] <;> rfl) | (simp [*, errW_none, errW_some] <;> rfl), pB_ HB.out⟩

/-! ### laws_heldBranchS: function 25 -/
def laws_heldBranchS.l0 : Nat → List (S48) → Int → Int → Option (Int)
 | 0, _, _, _ => none
 | k + 1,x0,x1,x5=>if x5 < (x0.length:Int) then (if 0≤x5 then (if ((rd_T48 x0 x5).f0)=x1 then (if ((rd_T48 x0 x5).f1.f0)=(wrap64 (x1 + 1)) then (if ((rd_T48 x0 x5).f1.f1.f0)=(wrap64 ((wrap64 (x1 + 1)) + 1)) then (if ((rd_T48 x0 x5).f1.f1.f1)=(wrap64 ((wrap64 ((wrap64 (x1 + 1)) + 1)) + 1)) then (if ((rd_T48 x0 x5).f1.f1.f2)=(wrap64 ((wrap64 ((wrap64 ((wrap64 (x1 + 1)) + 1)) + 1)) + 1)) then ((laws_heldKidS.f k ((rd_T48 x0 x5).f1.f2) (wrap64 ((wrap64 ((wrap64 ((wrap64 ((wrap64 (x1 + 1)) + 1)) + 1)) + 1)) + 1))).bind fun t480=>(if t480 < 0 then (some (-1)) else (laws_heldBranchS.l0 k x0 t480 (wrap64 (x5 + 1))))) else (some (-1))) else (some (-1))) else (some (-1))) else (some (-1))) else (some (-1))) else (none)) else (some x1)
def laws_heldBranchS.f (k : Nat) (l0 : List (S48)) (a1 : Int) : Option (Int) := laws_heldBranchS.l0 k l0 a1 0
set_option maxHeartbeats 8000000 in
set_option maxRecDepth 100000 in
theorem laws_heldBranchS.calls (k : Nat) (A0 : Option Addr) (c0 : Nat) (l0 : List (S48)) (a1 : Int) (r : Int) (w : World) (hr0 : Kd.C k48 w A0 l0.length l0) (hc0 : l0.length ≤ c0) (h : laws_heldBranchS.f k l0 a1 = some r) :
  Calls Try.prog 25 #[.slice A0 l0.length c0, .int .i64 a1] w fun e w' => e = .returned (.int .i64 r) ∧ Drawn0 w w' := by
 have HR0 := Aside0.mk hr0
 have HC0 := Aside0.mk hc0
 clear hr0 hc0
 have H : (laws_heldBranchS.l0 k l0 a1 0) = some r := h
 clear h
 have H' := Aside0.mk H
 clear H
 go_enter Try.func25, Try.ntmps25
 go_wp2
 go_loopg [1, 5] k (fun kq v1 v5 w' => ∃ (x1_1 : Int) (x5_1 : Int), v1 = .int .i64 x1_1 ∧ v5 = .int .i64 x5_1 ∧ Aside0 (laws_heldBranchS.l0 kq l0 x1_1 x5_1 = some r) ∧ Aside0 (kq ≤ k) ∧ Drawn0 w w')
 case atStart => exact ⟨(a1), (0), Z27, Z27, H', ⟨Nat.le_refl _⟩, by repeat (first | exact Drawn0.refl _ | apply Drawn0.step)⟩
 case round =>
  clear H'
  try clear c2
  try clear p2
  obtain ⟨x1_1, x5_1, rfl, rfl, HA, HK1, ⟨m1, rfl⟩⟩ := hrel
  cases gk with
  | zero => exact absurd HA.out (by simp [laws_heldBranchS.l0])
  | succ k1 =>
   have H := HA.out; clear HA; simp only [laws_heldBranchS.l0] at H
   by_cases c3 : x5_1 < (l0.length : Int)
   ·rw [if_pos c3] at H
    have c3b0 : decide (x5_1 < (l0.length : Int)) = true := decide_eq_true c3; clear c3
    by_cases c4 : 0 ≤ x5_1
    ·rw [if_pos c4] at H
     have c4b0:decide (0≤x5_1)=true:=decide_eq_true c4;clear c4;have HU5:=Aside0.mk H;clear H;have p474:0≤(x5_1:Int):=of_decide_eq_true Z26;have q474:x5_1 < (l0.length:Int):=of_decide_eq_true Z26;obtain ⟨ad474,A474_5,c474_5,e474,hx474_0,hx474_1,hx474_2,hx474_3,hx474_4,hx474_5,hl474_5,hi474_5⟩:=at_T48 HR0.out x5_1 p474 q474;cases e474;have HR474_5:=Aside0.mk hi474_5;have HC474_5:=Aside0.mk hl474_5;clear hi474_5 hl474_5;replace p474:=eq_true p474;replace q474:=eq_true q474
     go_upto_if 18 with (fail)
     have H := HU5.out; clear HU5
     by_cases c6 : ((rd_T48 l0 x5_1).f0) = x1_1
     ·rw [if_pos c6] at H
      have c6b0:(((rd_T48 l0 x5_1).f0) == x1_1)=true:=beq_iff_eq.mpr c6;have c6b1:(((rd_T48 l0 x5_1).f0) != x1_1)=false:=bne_eq_false_iff_eq.mpr c6;clear c6;(first|rw [c6b0]|(simp only [i64_w,i32_w];rw [c6b0])|(have cz_:=c6b0;simp only [bne,gt_iff_lt,Int.natCast_pos] at cz_;first|rw [cz_]|(simp only [i64_w,i32_w];rw [cz_]))|skip);have HU7:=Aside0.mk H;clear H;have p475:0≤(x5_1:Int):=of_decide_eq_true Z26;have q475:x5_1 < (l0.length:Int):=of_decide_eq_true Z26;obtain ⟨ad475,A475_5,c475_5,e475,hx475_0,hx475_1,hx475_2,hx475_3,hx475_4,hx475_5,hl475_5,hi475_5⟩:=at_T48 HR0.out x5_1 p475 q475;obtain rfl:ad474=ad475:=(by injection e475);have HR475_5:=Aside0.mk hi475_5;have HC475_5:=Aside0.mk hl475_5;clear hi475_5 hl475_5;replace p475:=eq_true p475;replace q475:=eq_true q475;have ea_:=Option.some.inj (hx474_5.symm.trans hx475_5)
      injection ea_ with ea_ en_ ec_
      subst ea_; subst ec_; clear en_
      go_upto_if 28 with (fail)
      have H := HU7.out; clear HU7
      by_cases c8 : ((rd_T48 l0 x5_1).f1.f0) = (wrap64 (x1_1 + 1))
      ·rw [if_pos c8] at H
       have c8b0:(((rd_T48 l0 x5_1).f1.f0) == (wrap64 (x1_1 + 1)))=true:=beq_iff_eq.mpr c8;have c8b1:(((rd_T48 l0 x5_1).f1.f0) != (wrap64 (x1_1 + 1)))=false:=bne_eq_false_iff_eq.mpr c8;clear c8;(first|rw [c8b0]|(simp only [i64_w,i32_w];rw [c8b0])|(have cz_:=c8b0;simp only [bne,gt_iff_lt,Int.natCast_pos] at cz_;first|rw [cz_]|(simp only [i64_w,i32_w];rw [cz_]))|skip);have HU9:=Aside0.mk H;clear H;have p476:0≤(x5_1:Int):=of_decide_eq_true Z26;have q476:x5_1 < (l0.length:Int):=of_decide_eq_true Z26;obtain ⟨ad476,A476_5,c476_5,e476,hx476_0,hx476_1,hx476_2,hx476_3,hx476_4,hx476_5,hl476_5,hi476_5⟩:=at_T48 HR0.out x5_1 p476 q476;obtain rfl:ad474=ad476:=(by injection e476);have HR476_5:=Aside0.mk hi476_5;have HC476_5:=Aside0.mk hl476_5;clear hi476_5 hl476_5;replace p476:=eq_true p476;replace q476:=eq_true q476;have ea_:=Option.some.inj (hx474_5.symm.trans hx476_5)
       injection ea_ with ea_ en_ ec_
       subst ea_; subst ec_; clear en_
       go_upto_if 39 with (fail)
       have H := HU9.out; clear HU9
       by_cases c10 : ((rd_T48 l0 x5_1).f1.f1.f0) = (wrap64 ((wrap64 (x1_1 + 1)) + 1))
       ·rw [if_pos c10] at H
        have c10b0:(((rd_T48 l0 x5_1).f1.f1.f0) == (wrap64 ((wrap64 (x1_1 + 1)) + 1)))=true:=beq_iff_eq.mpr c10;have c10b1:(((rd_T48 l0 x5_1).f1.f1.f0) != (wrap64 ((wrap64 (x1_1 + 1)) + 1)))=false:=bne_eq_false_iff_eq.mpr c10;clear c10;(first|rw [c10b0]|(simp only [i64_w,i32_w];rw [c10b0])|(have cz_:=c10b0;simp only [bne,gt_iff_lt,Int.natCast_pos] at cz_;first|rw [cz_]|(simp only [i64_w,i32_w];rw [cz_]))|skip);have HU11:=Aside0.mk H;clear H;have p477:0≤(x5_1:Int):=of_decide_eq_true Z26;have q477:x5_1 < (l0.length:Int):=of_decide_eq_true Z26;obtain ⟨ad477,A477_5,c477_5,e477,hx477_0,hx477_1,hx477_2,hx477_3,hx477_4,hx477_5,hl477_5,hi477_5⟩:=at_T48 HR0.out x5_1 p477 q477;obtain rfl:ad474=ad477:=(by injection e477);have HR477_5:=Aside0.mk hi477_5;have HC477_5:=Aside0.mk hl477_5;clear hi477_5 hl477_5;replace p477:=eq_true p477;replace q477:=eq_true q477;have ea_:=Option.some.inj (hx474_5.symm.trans hx477_5)
        injection ea_ with ea_ en_ ec_
        subst ea_; subst ec_; clear en_
        go_upto_if 50 with (fail)
        have H := HU11.out; clear HU11
        by_cases c12 : ((rd_T48 l0 x5_1).f1.f1.f1) = (wrap64 ((wrap64 ((wrap64 (x1_1 + 1)) + 1)) + 1))
        ·rw [if_pos c12] at H
         have c12b0:(((rd_T48 l0 x5_1).f1.f1.f1) == (wrap64 ((wrap64 ((wrap64 (x1_1 + 1)) + 1)) + 1)))=true:=beq_iff_eq.mpr c12;have c12b1:(((rd_T48 l0 x5_1).f1.f1.f1) != (wrap64 ((wrap64 ((wrap64 (x1_1 + 1)) + 1)) + 1)))=false:=bne_eq_false_iff_eq.mpr c12;clear c12;(first|rw [c12b0]|(simp only [i64_w,i32_w];rw [c12b0])|(have cz_:=c12b0;simp only [bne,gt_iff_lt,Int.natCast_pos] at cz_;first|rw [cz_]|(simp only [i64_w,i32_w];rw [cz_]))|skip);have HU13:=Aside0.mk H;clear H;have p478:0≤(x5_1:Int):=of_decide_eq_true Z26;have q478:x5_1 < (l0.length:Int):=of_decide_eq_true Z26;obtain ⟨ad478,A478_5,c478_5,e478,hx478_0,hx478_1,hx478_2,hx478_3,hx478_4,hx478_5,hl478_5,hi478_5⟩:=at_T48 HR0.out x5_1 p478 q478;obtain rfl:ad474=ad478:=(by injection e478);have HR478_5:=Aside0.mk hi478_5;have HC478_5:=Aside0.mk hl478_5;clear hi478_5 hl478_5;replace p478:=eq_true p478;replace q478:=eq_true q478;have ea_:=Option.some.inj (hx474_5.symm.trans hx478_5)
         injection ea_ with ea_ en_ ec_
         subst ea_; subst ec_; clear en_
         go_upto_if 61 with (fail)
         have H := HU13.out; clear HU13
         by_cases c14 : ((rd_T48 l0 x5_1).f1.f1.f2) = (wrap64 ((wrap64 ((wrap64 ((wrap64 (x1_1 + 1)) + 1)) + 1)) + 1))
         ·rw [if_pos c14] at H
          have c14b0:(((rd_T48 l0 x5_1).f1.f1.f2) == (wrap64 ((wrap64 ((wrap64 ((wrap64 (x1_1 + 1)) + 1)) + 1)) + 1)))=true:=beq_iff_eq.mpr c14;have c14b1:(((rd_T48 l0 x5_1).f1.f1.f2) != (wrap64 ((wrap64 ((wrap64 ((wrap64 (x1_1 + 1)) + 1)) + 1)) + 1)))=false:=bne_eq_false_iff_eq.mpr c14;clear c14;(first|rw [c14b0]|(simp only [i64_w,i32_w];rw [c14b0])|(have cz_:=c14b0;simp only [bne,gt_iff_lt,Int.natCast_pos] at cz_;first|rw [cz_]|(simp only [i64_w,i32_w];rw [cz_]))|skip);obtain ⟨t480,A150,H⟩:=Option.bind_eq_some_iff.mp H;(try dsimp only at H);have A15:=Aside0.mk A150;clear A150;have HU16:=Aside0.mk H;clear H;have p479:0≤(x5_1:Int):=of_decide_eq_true Z26;have q479:x5_1 < (l0.length:Int):=of_decide_eq_true Z26;obtain ⟨ad479,A479_5,c479_5,e479,hx479_0,hx479_1,hx479_2,hx479_3,hx479_4,hx479_5,hl479_5,hi479_5⟩:=at_T48 HR0.out x5_1 p479 q479;obtain rfl:ad474=ad479:=(by injection e479);have HR479_5:=Aside0.mk hi479_5;have HC479_5:=Aside0.mk hl479_5;clear hi479_5 hl479_5;replace p479:=eq_true p479;replace q479:=eq_true q479;have ea_:=Option.some.inj (hx474_5.symm.trans hx479_5)
          injection ea_ with ea_ en_ ec_
          subst ea_; subst ec_; clear en_
          go_upto_if 73 with (first|((with_reducible refine gate_callee (f:=45) rfl ?_);refine goesL_ (some 71) rfl rfl Try.func45 (by kernel_rfl) rfl #[.slice A474_5 ((rd_T48 l0 x5_1).f1.f2).length c474_5,.int .i64 (wrap64 ((wrap64 ((wrap64 ((wrap64 ((wrap64 (x1_1 + 1)) + 1)) + 1)) + 1)) + 1))] rfl Z8 ?_;(with_reducible refine (laws_heldKidS.calls k1 _ _ ((rd_T48 l0 x5_1).f1.f2) (wrap64 ((wrap64 ((wrap64 ((wrap64 ((wrap64 (x1_1 + 1)) + 1)) + 1)) + 1)) + 1)) t480 _ ?side1 ?side2 A15.out).mono ?_);(case side1=>exact pC_ HR479_5.out);(case side2=>exact HC479_5.out);rintro e w' ⟨rfl,⟨nd,rfl⟩⟩;refine ⟨_,rfl,?_⟩))
          have H := HU16.out; clear HU16
          by_cases c17 : t480 < 0
          ·rw [if_pos c17] at H
           have c17b0:decide (t480 < 0)=true:=decide_eq_true c17;clear c17;(first|rw [c17b0]|(simp only [i64_w,i32_w];rw [c17b0])|(have cz_:=c17b0;simp only [bne,gt_iff_lt,Int.natCast_pos] at cz_;first|rw [cz_]|(simp only [i64_w,i32_w];rw [cz_]))|skip);obtain rfl:=Option.some.inj H
           go_wp2
           go_ret; exact ⟨by first | rfl | (simp; done) | (simp [*]; done), by repeat (first | exact Drawn0.refl _ | apply Drawn0.step)⟩
          ·rw [if_neg c17] at H
           have c17b0:decide (t480 < 0)=false:=decide_eq_false c17;clear c17;(first|rw [c17b0]|(simp only [i64_w,i32_w];rw [c17b0])|(have cz_:=c17b0;simp only [bne,gt_iff_lt,Int.natCast_pos] at cz_;first|rw [cz_]|(simp only [i64_w,i32_w];rw [cz_]))|skip);have H':=Aside0.mk H;clear H
           go_wp2
           go_roundg k1
           case measure => have := HK1.out; omega
           case rel => exact ⟨(t480), (wrap64 (x5_1 + 1)), Z27, Z27, H', ⟨by have := HK1.out; omega⟩, by repeat (first | exact Drawn0.refl _ | apply Drawn0.step)⟩
         ·rw [if_neg c14] at H
          have c14b0:(((rd_T48 l0 x5_1).f1.f1.f2) == (wrap64 ((wrap64 ((wrap64 ((wrap64 (x1_1 + 1)) + 1)) + 1)) + 1)))=false:=beq_eq_false_iff_ne.mpr c14;have c14b1:(((rd_T48 l0 x5_1).f1.f1.f2) != (wrap64 ((wrap64 ((wrap64 ((wrap64 (x1_1 + 1)) + 1)) + 1)) + 1)))=true:=bne_iff_ne.mpr c14;(first|rw [c14b0]|(simp only [i64_w,i32_w];rw [c14b0])|(have cz_:=c14b0;simp only [bne,gt_iff_lt,Int.natCast_pos] at cz_;first|rw [cz_]|(simp only [i64_w,i32_w];rw [cz_]))|skip);obtain rfl:=Option.some.inj H
          go_wp2
          go_ret; exact ⟨by first | rfl | (simp; done) | (simp [*]; done), by repeat (first | exact Drawn0.refl _ | apply Drawn0.step)⟩
        ·rw [if_neg c12] at H
         have c12b0:(((rd_T48 l0 x5_1).f1.f1.f1) == (wrap64 ((wrap64 ((wrap64 (x1_1 + 1)) + 1)) + 1)))=false:=beq_eq_false_iff_ne.mpr c12;have c12b1:(((rd_T48 l0 x5_1).f1.f1.f1) != (wrap64 ((wrap64 ((wrap64 (x1_1 + 1)) + 1)) + 1)))=true:=bne_iff_ne.mpr c12;(first|rw [c12b0]|(simp only [i64_w,i32_w];rw [c12b0])|(have cz_:=c12b0;simp only [bne,gt_iff_lt,Int.natCast_pos] at cz_;first|rw [cz_]|(simp only [i64_w,i32_w];rw [cz_]))|skip);obtain rfl:=Option.some.inj H
         go_wp2
         go_ret; exact ⟨by first | rfl | (simp; done) | (simp [*]; done), by repeat (first | exact Drawn0.refl _ | apply Drawn0.step)⟩
       ·rw [if_neg c10] at H
        have c10b0:(((rd_T48 l0 x5_1).f1.f1.f0) == (wrap64 ((wrap64 (x1_1 + 1)) + 1)))=false:=beq_eq_false_iff_ne.mpr c10;have c10b1:(((rd_T48 l0 x5_1).f1.f1.f0) != (wrap64 ((wrap64 (x1_1 + 1)) + 1)))=true:=bne_iff_ne.mpr c10;(first|rw [c10b0]|(simp only [i64_w,i32_w];rw [c10b0])|(have cz_:=c10b0;simp only [bne,gt_iff_lt,Int.natCast_pos] at cz_;first|rw [cz_]|(simp only [i64_w,i32_w];rw [cz_]))|skip);obtain rfl:=Option.some.inj H
        go_wp2
        go_ret; exact ⟨by first | rfl | (simp; done) | (simp [*]; done), by repeat (first | exact Drawn0.refl _ | apply Drawn0.step)⟩
      ·rw [if_neg c8] at H
       have c8b0:(((rd_T48 l0 x5_1).f1.f0) == (wrap64 (x1_1 + 1)))=false:=beq_eq_false_iff_ne.mpr c8;have c8b1:(((rd_T48 l0 x5_1).f1.f0) != (wrap64 (x1_1 + 1)))=true:=bne_iff_ne.mpr c8;(first|rw [c8b0]|(simp only [i64_w,i32_w];rw [c8b0])|(have cz_:=c8b0;simp only [bne,gt_iff_lt,Int.natCast_pos] at cz_;first|rw [cz_]|(simp only [i64_w,i32_w];rw [cz_]))|skip);obtain rfl:=Option.some.inj H
       go_wp2
       go_ret; exact ⟨by first | rfl | (simp; done) | (simp [*]; done), by repeat (first | exact Drawn0.refl _ | apply Drawn0.step)⟩
     ·rw [if_neg c6] at H
      have c6b0:(((rd_T48 l0 x5_1).f0) == x1_1)=false:=beq_eq_false_iff_ne.mpr c6;have c6b1:(((rd_T48 l0 x5_1).f0) != x1_1)=true:=bne_iff_ne.mpr c6;(first|rw [c6b0]|(simp only [i64_w,i32_w];rw [c6b0])|(have cz_:=c6b0;simp only [bne,gt_iff_lt,Int.natCast_pos] at cz_;first|rw [cz_]|(simp only [i64_w,i32_w];rw [cz_]))|skip);obtain rfl:=Option.some.inj H
      go_wp2
      go_ret; exact ⟨by first | rfl | (simp; done) | (simp [*]; done), by repeat (first | exact Drawn0.refl _ | apply Drawn0.step)⟩
    ·rw [if_neg c4] at H
     exact absurd H (by simp)
   ·rw [if_neg c3] at H
    have c3b0 : decide (x5_1 < (l0.length : Int)) = false := decide_eq_false c3; clear c3; obtain rfl := Option.some.inj H
    go_wp2
    go_ret; exact ⟨by first | rfl | (simp; done) | (simp [*]; done), by repeat (first | exact Drawn0.refl _ | apply Drawn0.step)⟩

/-! ### laws_heldTree: function 10 -/
def laws_heldTree.f (k : Nat) (a0_0 : Int) (a0_1 : Int) (a0_2 : Int) (a0_3 : Int) (l0_4 : List (S61)) (l0_5 : List (S48)) (a1 : Int) : Option (Int) := (laws_heldFair.f k a0_0 a0_1 a0_2 a0_3 l0_4 a1).bind fun t482 => (if t482 < 0 then (some (-1)) else ((laws_heldBranchS.f k l0_5 t482).bind fun t483 => (if t483 < 0 then (some (-1)) else (some t483))))
set_option maxHeartbeats 8000000 in
set_option maxRecDepth 100000 in
theorem laws_heldTree.calls (k : Nat) (a0_0 : Int) (a0_1 : Int) (a0_2 : Int) (a0_3 : Int) (A0_4 : Option Addr) (c0_4 : Nat) (l0_4 : List (S61)) (A0_5 : Option Addr) (c0_5 : Nat) (l0_5 : List (S48)) (a1 : Int) (r : Int) (w : World) (hr0_4 : Kd.C k61 w A0_4 l0_4.length l0_4) (hc0_4 : l0_4.length ≤ c0_4) (hr0_5 : Kd.C k48 w A0_5 l0_5.length l0_5) (hc0_5 : l0_5.length ≤ c0_5) (h : laws_heldTree.f k a0_0 a0_1 a0_2 a0_3 l0_4 l0_5 a1 = some r) :
  Calls Try.prog 10 #[.agg #[.int .i64 a0_0,.int .i64 a0_1,.int .i64 a0_2,.int .i64 a0_3,.slice A0_4 l0_4.length c0_4,.slice A0_5 l0_5.length c0_5],.int .i64 a1] w fun e w'=>e=.returned (.int .i64 r)∧Below w.heap.size w w':=by
 have hu37 := Try.underlying37
 have hu34 := Try.underlying34
 have HR0_4 := Aside0.mk hr0_4
 have HC0_4 := Aside0.mk hc0_4
 clear hr0_4 hc0_4
 have HR0_5 := Aside0.mk hr0_5
 have HC0_5 := Aside0.mk hc0_5
 clear hr0_5 hc0_5
 have HB := Aside0.mk (Below.refl w.heap.size w)
 have H:((laws_heldFair.f k a0_0 a0_1 a0_2 a0_3 l0_4 a1).bind fun t482=>(if t482 < 0 then (some (-1)) else ((laws_heldBranchS.f k l0_5 t482).bind fun t483=>(if t483 < 0 then (some (-1)) else (some t483)))))=some r:=h
 clear h
 obtain ⟨t482, A30, H⟩ := Option.bind_eq_some_iff.mp H
 (try dsimp only at H)
 have A3 := Aside0.mk A30
 clear A30
 have HU4 := Aside0.mk H
 clear H
 go_enter Try.func10, Try.ntmps10
 go_upto_if 10 with (first|((with_reducible refine gate_dst (N:=2) rfl ?_);refine box_event ?hg (N:=2) ?hd (cs:=#[.int .i64 a0_0,.int .i64 a0_1,.int .i64 a0_2,.int .i64 a0_3,.slice A0_4 l0_4.length c0_4,.slice A0_5 l0_5.length c0_5]) (t:=37) ?hr ?_;(case hd=>rfl);(case hg=>rfl);(case hr=>first|(go_simp;done)|(go_simp;rfl));intro gb481 hg w5 hbox hb;have n_:=an_ (below_step (pB_ HB.out) hb)<|an_ (hbox)<|an_ ((by rw [hg];exact (below_size (pB_ HB.out)):w.heap.size≤gb481))<|Aside0.mk ((by rw [hg];exact (below_size (pB_ HB.out)):w.heap.size≤gb481));clear HB;obtain ⟨HB,BK481,GW481,GE481⟩:=n_;clear hb hbox hg;obtain ⟨hcz6_0,hcz6_1,hcz6_2,hcz6_3,hcz6_4,hcz6_5,hfz6_0,hfz6_1,hfz6_2,hfz6_3,hfz6_4,hfz6_5⟩:=cells6 BK481.out)|((with_reducible refine gate_callee (f:=24) rfl ?_);refine goesL_ (some 8) rfl rfl Try.func24 (by kernel_rfl) rfl #[.agg #[.int .i64 a0_0,.int .i64 a0_1,.int .i64 a0_2,.int .i64 a0_3,.slice A0_4 l0_4.length c0_4],.int .i64 a1] rfl Z8 ?_;(with_reducible refine (laws_heldFair.calls k a0_0 a0_1 a0_2 a0_3 _ _ l0_4 a1 t482 _ ?side1 ?side2 A3.out).mono ?_);(case side1=>exact pC_ (Kd.C_below HR0_4.out HB.out));(case side2=>exact HC0_4.out);rintro e w7 ⟨rfl,hb⟩;refine ⟨_,rfl,?_⟩;have n_:=an_ (blk_below (pk_ BK481.out) hb)<|Aside0.mk (below_step (pB_ HB.out) hb);clear BK481 HB;obtain ⟨BK481,HB⟩:=n_;(try clear hb);(try clear hb2);(try clear hk);(try clear hi)))
 have H := HU4.out
 clear HU4
 by_cases c8 : t482 < 0
 ·rw [if_pos c8] at H
  have c8b0:decide (t482 < 0)=true:=decide_eq_true c8;clear c8;(first|rw [c8b0]|(simp only [i64_w,i32_w];rw [c8b0])|(have cz_:=c8b0;simp only [bne,gt_iff_lt,Int.natCast_pos] at cz_;first|rw [cz_]|(simp only [i64_w,i32_w];rw [cz_]))|skip);obtain rfl:=Option.some.inj H
  go_wp2
  go_ret; exact ⟨by first | rfl | (simp [errW_none, errW_some] <;> rfl) | (simp [*, errW_none, errW_some] <;> rfl), pB_ HB.out⟩
 ·rw [if_neg c8] at H
  have c8b0:decide (t482 < 0)=false:=decide_eq_false c8;clear c8;(first|rw [c8b0]|(simp only [i64_w,i32_w];rw [c8b0])|(have cz_:=c8b0;simp only [bne,gt_iff_lt,Int.natCast_pos] at cz_;first|rw [cz_]|(simp only [i64_w,i32_w];rw [cz_]))|skip);obtain ⟨t483,A90,H⟩:=Option.bind_eq_some_iff.mp H;(try dsimp only at H);have A9:=Aside0.mk A90;clear A90;have HU10:=Aside0.mk H;clear H;obtain ⟨hcz11_0,hcz11_1,hcz11_2,hcz11_3,hcz11_4,hcz11_5,hfz11_0,hfz11_1,hfz11_2,hfz11_3,hfz11_4,hfz11_5⟩:=cells6 BK481.out
  go_upto_if 16 with (first|((with_reducible refine gate_callee (f:=25) rfl ?_);refine goesL_ (some 14) rfl rfl Try.func25 (by kernel_rfl) rfl #[.slice A0_5 l0_5.length c0_5,.int .i64 t482] rfl Z8 ?_;(with_reducible refine (laws_heldBranchS.calls k _ _ l0_5 t482 t483 _ ?side1 ?side2 A9.out).mono ?_);(case side1=>exact pC_ (Kd.C_below HR0_5.out HB.out));(case side2=>exact HC0_5.out);rintro e w' ⟨rfl,⟨nd,rfl⟩⟩;refine ⟨_,rfl,?_⟩))
  have H := HU10.out; clear HU10
  by_cases c12 : t483 < 0
  ·rw [if_pos c12] at H
   have c12b0:decide (t483 < 0)=true:=decide_eq_true c12;clear c12;(first|rw [c12b0]|(simp only [i64_w,i32_w];rw [c12b0])|(have cz_:=c12b0;simp only [bne,gt_iff_lt,Int.natCast_pos] at cz_;first|rw [cz_]|(simp only [i64_w,i32_w];rw [cz_]))|skip);obtain rfl:=Option.some.inj H
   go_wp2
   go_ret; exact ⟨by first | rfl | (simp [errW_none, errW_some] <;> rfl) | (simp [*, errW_none, errW_some] <;> rfl), pB_ HB.out⟩
  ·rw [if_neg c12] at H
   have c12b0:decide (t483 < 0)=false:=decide_eq_false c12;clear c12;(first|rw [c12b0]|(simp only [i64_w,i32_w];rw [c12b0])|(have cz_:=c12b0;simp only [bne,gt_iff_lt,Int.natCast_pos] at cz_;first|rw [cz_]|(simp only [i64_w,i32_w];rw [cz_]))|skip);obtain rfl:=Option.some.inj H
   go_wp2
   go_ret; exact ⟨by first | rfl | (simp [errW_none, errW_some] <;> rfl) | (simp [*, errW_none, errW_some] <;> rfl), pB_ HB.out⟩

end Go.Proofs.Ytolphjnajopknaa.PFnExactTreeRebase
