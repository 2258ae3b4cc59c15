-- by a program of this session's, over the kit's words
import Derived.Test.YtjhgkonacdimfabPZFnExactCmdOk
import Derived.Test.YtjhgkonacdimfabPFnExactCmdOkx0
import Derived.Test.YtjhgkonacdimfabPFnExactCmdOkx8
namespace Go.Proofs.Ytjhgkonacdimfab.PFnExactCmdOk
open Go.RowKit Go.Proofs.YtjhgkonacdimfabW.PrintWords Go.Proofs.YtjhgkonacdimfabW.PrintLast Go.Proofs.YtjhgkonacdimfabW.PrintMore Go.Proofs.YtjhgkonacdimfabV Go.Proofs.Ytjhgkonacdimfab.ZFnExactCmdOk
open Go.Value renaming int → I, slice → Y
open Go.IntKind renaming i64 → L
open Aside0 renaming mk → D
open Option renaming bind_eq_some_iff → bs_
attribute [local go_sem] max2_int min2_int max_two min_two max_three min_three max_four min_four   -- for this text's walks alone
set_option linter.unusedVariables false
set_option linter.unusedSimpArgs false

/-! ### spec_Be32: function 63 -/
mutual
def spec_Be32.j0 : Nat → List Int → Int → Bool → Option (Int × Bool)
 | 0, _, _, _ => none
 | k + 1, x0, x1, x16 => if x16 = true then (some (0, false)) else (spec_Be32.l0 k x0 x1 0 0)
def spec_Be32.l0 : Nat → List Int → Int → Int → Int → Option (Int × Bool)
 | 0, _, _, _, _ => none
 | k + 1,x0,x1,x6,x7=>if x7 < 4 then (if 0≤(wrap64 (x1 + x7)) then (if (wrap64 (x1 + x7)) < (x0.length:Int) then (spec_Be32.l0 k x0 x1 (wrap64 ((wrap64 (256 * x6)) + (wrap64 (rd x0 (wrap64 (x1 + x7)))))) (wrap64 (x7 + 1))) else (none)) else (none)) else (some (x6,true))
end
def spec_Be32.f (k : Nat) (l0 : List Int) (a1 : Int) : Option (Int × Bool) := if a1 < 0 then (spec_Be32.j0 k l0 a1 true) else (spec_Be32.j0 k l0 a1 (decide (a1 > (wrap64 ((l0.length : Int) - 4)))))
set_option maxHeartbeats 8000000 in
set_option maxRecDepth 100000 in
theorem spec_Be32.calls (k : Nat) (A0 : Option Addr) (c0 : Nat) (l0 : List Int) (a1 r1 : Int) (r2 : Bool) (w : World) (hr0 : Kd.C (Kd.int .u8) w A0 l0.length l0) (hc0 : l0.length ≤ c0) (h : spec_Be32.f k l0 a1 = some (r1, r2)) :
  Calls Try.prog 63 #[Y A0 l0.length c0, I L a1] w fun e w' => e = .returned (.tuple #[I L r1, .bool r2]) ∧ Drawn0 w w' := by
 have HR0 := D hr0
 have HC0 := D hc0
 clear hr0 hc0
 have H : (if a1 < 0 then (spec_Be32.j0 k l0 a1 true) else (spec_Be32.j0 k l0 a1 (decide (a1 > (wrap64 ((l0.length : Int) - 4)))))) = some (r1, r2) := h
 clear h
 have HC3 := D H
 clear H
 go_enter Try.func63, Try.ntmps63
 go_upto_region 1 with (fail)
 go_cut [16] (fun v16 wc => ∃ (kq : Nat) (x16_2 : Bool), v16 = .bool x16_2 ∧ Aside0 (spec_Be32.j0 kq l0 a1 x16_2 = some (r1, r2)) ∧ Aside0 (kq ≤ k) ∧ Drawn0 w wc)
 case first =>
  have H := HC3.out; clear HC3
  by_cases c4 : a1 < 0
  ·rw [if_pos c4] at H
   have c4b0:decide (a1 < 0)=true:=decide_eq_true c4;clear c4;refine rw_ c4b0 ?_;have H':=D H;clear H
   go_wp2
   go_meet
   case rel => exact ⟨_, (true), Z11, H', ⟨by first | omega | exact Nat.le_refl _⟩, by repeat (first | exact Drawn0.refl _ | apply Drawn0.step)⟩
  ·rw [if_neg c4] at H
   have c4b0:decide (a1 < 0)=false:=decide_eq_false c4;clear c4;refine rw_ c4b0 ?_;have H':=D H;clear H
   go_wp2
   go_meet
   case rel => exact ⟨_, (decide (a1 > (wrap64 ((l0.length : Int) - 4)))), Z11, H', ⟨by first | omega | exact Nat.le_refl _⟩, by repeat (first | exact Drawn0.refl _ | apply Drawn0.step)⟩
 case rest =>
  clear HC3
  (try clear p2);(try clear c4);(try clear c4b0)
  obtain ⟨kq, x16_2, rfl, HA, HJ2, ⟨mc2, rfl⟩⟩ := hcut
  cases kq with
  | zero => exact absurd HA.out (by simp [spec_Be32.j0])
  | succ kj2 =>
   have H := HA.out; clear HA; simp only [spec_Be32.j0] at H
   by_cases c5 : x16_2 = true
   ·subst c5
    rw [if_pos rfl] at H; simp only [Option.some.injEq, Prod.mk.injEq] at H; obtain ⟨rfl, rfl⟩ := H
    go_wp2
    go_ret2; exact ⟨by first | rfl | (simp; done) | (simp [*]; done), by repeat (first | exact Drawn0.refl _ | apply Drawn0.step)⟩
   ·replace c5 := Bool.eq_false_iff.mpr c5
    subst c5; rw [if_neg (show ¬ (false = true) by decide)] at H; have H' := D H; clear H
    go_wp2
    go_loopg [6,7] kj2 (fun kq v6 v7 w'=>∃ (x6_2:Int) (x7_2:Int),v6=I L x6_2∧v7=I L x7_2∧Aside0 (spec_Be32.l0 kq l0 a1 x6_2 x7_2=some (r1,r2))∧Aside0 (kq≤kj2)∧Drawn0 w w')
    case atStart => exact ⟨(0), (0), Z11, Z11, H', ⟨Nat.le_refl _⟩, by repeat (first | exact Drawn0.refl _ | apply Drawn0.step)⟩
    case round =>
     clear H'
     (try clear c2);(try clear p2);(try clear c4);(try clear c4b0);(try clear c5);(try clear p2)
     obtain ⟨x6_2, x7_2, rfl, rfl, HA, HK2, ⟨m2, rfl⟩⟩ := hrel
     cases gk with
     | zero => exact absurd HA.out (by simp [spec_Be32.l0])
     | succ k2 =>
      have H := HA.out; clear HA; simp only [spec_Be32.l0] at H
      by_cases c6 : x7_2 < 4
      ·rw [if_pos c6] at H
       have c6b0 : decide (x7_2 < 4) = true := decide_eq_true c6; clear c6; obtain ⟨ji7, hji7⟩ : ∃ j_ : Int, (wrap64 (a1 + x7_2)) = j_ := ⟨_, rfl⟩
       replace H:(if 0≤(ji7) then (if (ji7) < (l0.length:Int) then (spec_Be32.l0 k2 l0 a1 (wrap64 ((wrap64 (256 * x6_2)) + (wrap64 (rd l0 (ji7))))) (wrap64 (x7_2 + 1))) else (none)) else (none))=some (r1,r2):=by first|(rw [hji7] at H;exact H)|(simp only [hji7] at H ⊢;exact H)
       have hji7w : (IntKind.i64.wrap (a1 + x7_2)) = ji7 := (i64_w _).trans hji7
       by_cases c8 : 0 ≤ (ji7)
       ·rw [if_pos c8] at H
        have c8b0 : decide (0 ≤ (ji7)) = true := decide_eq_true c8; clear c8
        by_cases c9 : (ji7) < (l0.length : Int)
        ·rw [if_pos c9] at H
         have c9b0:decide ((ji7) < (l0.length:Int))=true:=decide_eq_true c9;clear c9;have H':=D H;clear H;have p152:0≤((ji7):Int):=od_ Z10;have q152:(ji7) < (l0.length:Int):=od_ Z10;obtain ⟨ad152,e152,hx152_0⟩:=Kd.at_int HR0.out (ji7) p152 q152;cases e152;replace p152:=eq_true p152;replace q152:=eq_true q152
         go_wp2
         go_roundg k2
         case measure => have := HJ2.out; have := HK2.out; omega
         case rel=>exact ⟨(wrap64 ((wrap64 (256 * x6_2)) + (wrap64 (rd l0 (ji7))))),(wrap64 (x7_2 + 1)),(by first|rfl|(simp;done)|(simp only [← hji7] <;> (first|rfl|simp))|(simp [*];done)),Z11,H',⟨by have:=HJ2.out;have:=HK2.out;omega⟩,by repeat (first|exact Drawn0.refl _|apply Drawn0.step)⟩
        ·rw [if_neg c9] at H
         exact absurd H (by simp)
       ·rw [if_neg c8] at H
        exact absurd H (by simp)
      ·rw [if_neg c6] at H
       have c6b0 : decide (x7_2 < 4) = false := decide_eq_false c6; clear c6; simp only [Option.some.injEq, Prod.mk.injEq] at H; obtain ⟨rfl, rfl⟩ := H
       go_wp2
       go_ret2; exact ⟨by first | rfl | (simp; done) | (simp [*]; done), by repeat (first | exact Drawn0.refl _ | apply Drawn0.step)⟩

/-! ### spec_AddrOf: function 57 -/
def spec_AddrOf.f (k : Nat) (l0 : List Int) : Option (Int × Int × Int × Int × Int × Bool) := if (l0.length : Int) = 4 then ((spec_Be32.f k l0 0).bind fun bt154 => (some (4, 0, 0, 0, bt154.1, true))) else (if (l0.length : Int) = 16 then ((spec_Be32.f k l0 0).bind fun bt156 => ((spec_Be32.f k l0 4).bind fun bt158 => ((spec_Be32.f k l0 8).bind fun bt160 => ((spec_Be32.f k l0 12).bind fun bt162 => (some (6, bt156.1, bt158.1, bt160.1, bt162.1, true)))))) else (some (0, 0, 0, 0, 0, false)))
set_option maxHeartbeats 8000000 in
set_option maxRecDepth 100000 in
theorem spec_AddrOf.calls (k : Nat) (A0 : Option Addr) (c0 : Nat) (l0 : List Int) (r1 r2 r3 r4 r5 : Int) (r6 : Bool) (w : World) (hr0 : Kd.C (Kd.int .u8) w A0 l0.length l0) (hc0 : l0.length ≤ c0) (h : spec_AddrOf.f k l0 = some (r1, r2, r3, r4, r5, r6)) :
  Calls Try.prog 57 #[Y A0 l0.length c0] w fun e w'=>e=.returned (.tuple #[.agg #[I L r1,I L r2,I L r3,I L r4,I L r5],.bool r6])∧Below w.heap.size w w':=by
 have hu35 := Try.underlying35
 have HR0 := D hr0
 have HC0 := D hc0
 clear hr0 hc0
 have HB := D (Below.refl w.heap.size w)
 have H:(if (l0.length:Int)=4 then ((spec_Be32.f k l0 0).bind fun bt154=>(some (4,0,0,0,bt154.1,true))) else (if (l0.length:Int)=16 then ((spec_Be32.f k l0 0).bind fun bt156=>((spec_Be32.f k l0 4).bind fun bt158=>((spec_Be32.f k l0 8).bind fun bt160=>((spec_Be32.f k l0 12).bind fun bt162=>(some (6,bt156.1,bt158.1,bt160.1,bt162.1,true)))))) else (some (0,0,0,0,0,false))))=some (r1,r2,r3,r4,r5,r6):=h
 clear h
 have HU2 := D H
 clear H
 go_enter Try.func57, Try.ntmps57
 go_upto_if 16 with (first|((with_reducible refine gate_dst (N:=2) rfl ?_);refine bx_ (N:=2) (cs:=#[I L 0,I L 0,I L 0,I L 0,I L 0]) (t:=35) ?_;intro gb153 hg w3 hbox hb;have n_:=an_ (below_step (pB_ HB.out) hb)<|an_ (hbox)<|an_ (bg_ hg (pB_ HB.out):w.heap.size≤gb153)<|D (bg_ hg (pB_ HB.out):w.heap.size≤gb153);clear HB;obtain ⟨HB,BK153,GW153,GE153⟩:=n_;clear hb hbox hg))
 have H := HU2.out
 clear HU2
 by_cases c4 : (l0.length : Int) = 4
 ·rw [if_pos c4] at H
  have c4b0:((l0.length:Int) == 4)=true:=beq_iff_eq.mpr c4;have c4b1:((l0.length:Int) != 4)=false:=bne_eq_false_iff_eq.mpr c4;clear c4;refine rw_ c4b0 ?_;obtain ⟨⟨t154,t155⟩,A50,H⟩:=bs_.mp H;(try dsimp only at H);have A5:=D A50;clear A50;simp only [Option.some.injEq,Prod.mk.injEq] at H;obtain ⟨rfl,rfl,rfl,rfl,rfl,rfl⟩:=H
  go_wp2_with (first|((with_reducible refine gate_callee (f:=63) rfl ?_);refine goesL_ (some 19) rfl rfl Try.func63 (by kernel_rfl) rfl #[Y A0 l0.length c0,I L 0] rfl Z6 ?_;(with_reducible refine (spec_Be32.calls k _ _ l0 0 t154 t155 _ ?side1 ?side2 A5.out).mono ?_);(case side1=>exact pC_ (Kd.C_below HR0.out HB.out));(case side2=>exact HC0.out);rintro e w' ⟨rfl,⟨nd,rfl⟩⟩;refine ⟨_,rfl,?_⟩;(try (rw [drewN_self w3];generalize hq_:World.drewN w3 _=w3;have n0_:Aside0 (w3.heap[gb153]?=some (.cells #[I L 0,I L 0,I L 0,I L 0,I L 0] 35 (0,0))):=⟨by rw [← hq_];exact (pk_ BK153.out)⟩;have n1_:Aside0 (Below w.heap.size w w3):=⟨by rw [← hq_];exact (pB_ HB.out)⟩;clear BK153 HB hq_;have BK153:=n0_;have HB:=n1_;clear n0_ n1_));have hcz6_0:=cells5 BK153.out))
  refine bodyPost_ret (results_ct rfl _ _ gb153 35 #[I L 4,I L 0,I L 0,I L 0,I L t154] (0,0) _ rfl (by exact pP_ BK153.out) Try.underlying35 rfl (by kernel_rfl)) rfl ?_;exact ⟨er_,pB_ HB.out⟩
 ·rw [if_neg c4] at H
  have c4b0:((l0.length:Int) == 4)=false:=beq_eq_false_iff_ne.mpr c4;have c4b1:((l0.length:Int) != 4)=true:=bne_iff_ne.mpr c4;refine rw_ c4b0 ?_
  by_cases c7 : (l0.length : Int) = 16
  ·rw [if_pos c7] at H
   have c7b0:((l0.length:Int) == 16)=true:=beq_iff_eq.mpr c7;have c7b1:((l0.length:Int) != 16)=false:=bne_eq_false_iff_eq.mpr c7;clear c7;obtain ⟨⟨t156,t157⟩,A80,H⟩:=bs_.mp H;(try dsimp only at H);have A8:=D A80;clear A80;obtain ⟨⟨t158,t159⟩,A90,H⟩:=bs_.mp H;(try dsimp only at H);have A9:=D A90;clear A90;obtain ⟨⟨t160,t161⟩,A100,H⟩:=bs_.mp H;(try dsimp only at H);have A10:=D A100;clear A100;obtain ⟨⟨t162,t163⟩,A110,H⟩:=bs_.mp H;(try dsimp only at H);have A11:=D A110;clear A110;simp only [Option.some.injEq,Prod.mk.injEq] at H;obtain ⟨rfl,rfl,rfl,rfl,rfl,rfl⟩:=H
   go_wp2_with (first|((with_reducible refine gate_callee (f:=63) rfl ?_);refine goesL_ (some 29) rfl rfl Try.func63 (by kernel_rfl) rfl #[Y A0 l0.length c0,I L 0] rfl Z6 ?_;(with_reducible refine (spec_Be32.calls k _ _ l0 0 t156 t157 _ ?side1 ?side2 A8.out).mono ?_);(case side1=>exact pC_ (Kd.C_below HR0.out HB.out));(case side2=>exact HC0.out);rintro e w' ⟨rfl,⟨nd,rfl⟩⟩;refine ⟨_,rfl,?_⟩;(try (rw [drewN_self w3];generalize hq_:World.drewN w3 _=w3;have n0_:Aside0 (w3.heap[gb153]?=some (.cells #[I L 0,I L 0,I L 0,I L 0,I L 0] 35 (0,0))):=⟨by rw [← hq_];exact (pk_ BK153.out)⟩;have n1_:Aside0 (Below w.heap.size w w3):=⟨by rw [← hq_];exact (pB_ HB.out)⟩;clear BK153 HB hq_;have BK153:=n0_;have HB:=n1_;clear n0_ n1_)))|((with_reducible refine gate_callee (f:=63) rfl ?_);refine goesL_ (some 34) rfl rfl Try.func63 (by kernel_rfl) rfl #[Y A0 l0.length c0,I L 4] rfl Z6 ?_;(with_reducible refine (spec_Be32.calls k _ _ l0 4 t158 t159 _ ?side1 ?side2 A9.out).mono ?_);(case side1=>exact pC_ (Kd.C_below HR0.out HB.out));(case side2=>exact HC0.out);rintro e w' ⟨rfl,⟨nd,rfl⟩⟩;refine ⟨_,rfl,?_⟩;(try (rw [drewN_self w3];generalize hq_:World.drewN w3 _=w3;have n0_:Aside0 (w3.heap[gb153]?=some (.cells #[I L 0,I L 0,I L 0,I L 0,I L 0] 35 (0,0))):=⟨by rw [← hq_];exact (pk_ BK153.out)⟩;have n1_:Aside0 (Below w.heap.size w w3):=⟨by rw [← hq_];exact (pB_ HB.out)⟩;clear BK153 HB hq_;have BK153:=n0_;have HB:=n1_;clear n0_ n1_)))|((with_reducible refine gate_callee (f:=63) rfl ?_);refine goesL_ (some 39) rfl rfl Try.func63 (by kernel_rfl) rfl #[Y A0 l0.length c0,I L 8] rfl Z6 ?_;(with_reducible refine (spec_Be32.calls k _ _ l0 8 t160 t161 _ ?side1 ?side2 A10.out).mono ?_);(case side1=>exact pC_ (Kd.C_below HR0.out HB.out));(case side2=>exact HC0.out);rintro e w' ⟨rfl,⟨nd,rfl⟩⟩;refine ⟨_,rfl,?_⟩;(try (rw [drewN_self w3];generalize hq_:World.drewN w3 _=w3;have n0_:Aside0 (w3.heap[gb153]?=some (.cells #[I L 0,I L 0,I L 0,I L 0,I L 0] 35 (0,0))):=⟨by rw [← hq_];exact (pk_ BK153.out)⟩;have n1_:Aside0 (Below w.heap.size w w3):=⟨by rw [← hq_];exact (pB_ HB.out)⟩;clear BK153 HB hq_;have BK153:=n0_;have HB:=n1_;clear n0_ n1_)))|((with_reducible refine gate_callee (f:=63) rfl ?_);refine goesL_ (some 44) rfl rfl Try.func63 (by kernel_rfl) rfl #[Y A0 l0.length c0,I L 12] rfl Z6 ?_;(with_reducible refine (spec_Be32.calls k _ _ l0 12 t162 t163 _ ?side1 ?side2 A11.out).mono ?_);(case side1=>exact pC_ (Kd.C_below HR0.out HB.out));(case side2=>exact HC0.out);rintro e w' ⟨rfl,⟨nd,rfl⟩⟩;refine ⟨_,rfl,?_⟩;(try (rw [drewN_self w3];generalize hq_:World.drewN w3 _=w3;have n0_:Aside0 (w3.heap[gb153]?=some (.cells #[I L 0,I L 0,I L 0,I L 0,I L 0] 35 (0,0))):=⟨by rw [← hq_];exact (pk_ BK153.out)⟩;have n1_:Aside0 (Below w.heap.size w w3):=⟨by rw [← hq_];exact (pB_ HB.out)⟩;clear BK153 HB hq_;have BK153:=n0_;have HB:=n1_;clear n0_ n1_));have hcz12_0:=cells5 BK153.out))
   refine bodyPost_ret (results_ct rfl _ _ gb153 35 #[I L 6,I L t156,I L t158,I L t160,I L t162] (0,0) _ rfl (by exact pP_ BK153.out) Try.underlying35 rfl (by kernel_rfl)) rfl ?_;exact ⟨er_,pB_ HB.out⟩
  ·rw [if_neg c7] at H
   have c7b0:((l0.length:Int) == 16)=false:=beq_eq_false_iff_ne.mpr c7;have c7b1:((l0.length:Int) != 16)=true:=bne_iff_ne.mpr c7;simp only [Option.some.injEq,Prod.mk.injEq] at H;obtain ⟨rfl,rfl,rfl,rfl,rfl,rfl⟩:=H;have hcz13_0:=cells5 BK153.out
   go_wp2
   refine bodyPost_ret (results_ct rfl _ _ gb153 35 #[I L 0,I L 0,I L 0,I L 0,I L 0] (0,0) _ rfl (by exact pP_ BK153.out) Try.underlying35 rfl (by kernel_rfl)) rfl ?_;exact ⟨er_,pB_ HB.out⟩

/-! ### spec_Cut: function 44 -/
mutual
def spec_Cut.j0 : Nat → Int → Bool → Int → Int → Int → Int → Int → Option (Int × Int × Int × Int × Int)
 | 0, _, _, _, _, _, _, _ => none
 | k + 1,x1,x23,x165000,x165001,x165002,x165003,x165004=>if x23=true then (some (0,0,0,0,0)) else ((spec_AddrBytes.f x165000 x165001 x165002 x165003 x165004).bind fun t168=>(spec_Cut.l0 k t168 x1 x165000 x165001 x165002 x165003 x165004))
def spec_Cut.l0 : Nat → List Int → Int → Int → Int → Int → Int → Int → Option (Int × Int × Int × Int × Int)
 | 0, _, _, _, _, _, _, _ => none
 | k + 1,x5,x6,x165000,x165001,x165002,x165003,x165004=>(spec_l03Bits.f x165000 x165001 x165002 x165003 x165004).bind fun t171=>(if x6 < t171 then (spec_Cut.l1 k x5 x6 128 (Int.tmod x6 8) x165000 x165001 x165002 x165003 x165004) else ((spec_AddrOf.f k x5).bind fun bt172=>(some (bt172.1,bt172.2.1,bt172.2.2.1,bt172.2.2.2.1,bt172.2.2.2.2.1))))
def spec_Cut.l1 : Nat → List Int → Int → Int → Int → Int → Int → Int → Int → Int → Option (Int × Int × Int × Int × Int)
 | 0, _, _, _, _, _, _, _, _, _ => none
 | k + 1,x5,x6,x7,x8,x165000,x165001,x165002,x165003,x165004=>if x8 > 0 then (spec_Cut.l1 k x5 x6 (wrap64 (Int.tdiv x7 2)) (wrap64 (x8 - 1)) x165000 x165001 x165002 x165003 x165004) else (if 0≤(wrap64 (Int.tdiv x6 8)) then (if (wrap64 (Int.tdiv x6 8)) < (x5.length:Int) then (if x7=0 then (none) else (if (Int.tmod (wrap64 (Int.tdiv (wrap64 (rd x5 (wrap64 (Int.tdiv x6 8)))) x7)) 2)=1 then (spec_Cut.l0 k (x5.set ((wrap64 (Int.tdiv x6 8)):Int).toNat (((rd x5 (wrap64 (Int.tdiv x6 8))) - ((x7) % 256)) % 256)) (wrap64 (x6 + 1)) x165000 x165001 x165002 x165003 x165004) else (spec_Cut.l0 k x5 (wrap64 (x6 + 1)) x165000 x165001 x165002 x165003 x165004))) else (none)) else (none))
end
def spec_Cut.f (k : Nat) (a0_0 a0_1 a0_2 a0_3 a0_4 a1 : Int) : Option (Int × Int × Int × Int × Int) := (spec_AddrOk.f a0_0 a0_1 a0_2 a0_3 a0_4).bind fun t166 => (if t166 = true then (if a1 < 0 then (spec_Cut.j0 k a1 true a0_0 a0_1 a0_2 a0_3 a0_4) else ((spec_l03Bits.f a0_0 a0_1 a0_2 a0_3 a0_4).bind fun t167 => (spec_Cut.j0 k a1 (decide (a1 > t167)) a0_0 a0_1 a0_2 a0_3 a0_4))) else (spec_Cut.j0 k a1 true a0_0 a0_1 a0_2 a0_3 a0_4))
set_option maxHeartbeats 8000000 in
set_option maxRecDepth 100000 in
theorem spec_Cut.calls (k : Nat) (a0_0 a0_1 a0_2 a0_3 a0_4 a1 r1 r2 r3 r4 r5 : Int) (w : World) (h : spec_Cut.f k a0_0 a0_1 a0_2 a0_3 a0_4 a1 = some (r1, r2, r3, r4, r5)) :
  Calls Try.prog 44 #[.agg #[I L a0_0,I L a0_1,I L a0_2,I L a0_3,I L a0_4],I L a1] w fun e w'=>e=.returned (.agg #[I L r1,I L r2,I L r3,I L r4,I L r5])∧Below w.heap.size w w':=by
 have hu35 := Try.underlying35
 have HB := D (Below.refl w.heap.size w)
 have H:((spec_AddrOk.f a0_0 a0_1 a0_2 a0_3 a0_4).bind fun Uc=>(if Uc=true then (if a1 < 0 then (spec_Cut.j0 k a1 true a0_0 a0_1 a0_2 a0_3 a0_4) else ((spec_l03Bits.f a0_0 a0_1 a0_2 a0_3 a0_4).bind fun Jc=>(spec_Cut.j0 k a1 (decide (a1 > Jc)) a0_0 a0_1 a0_2 a0_3 a0_4))) else (spec_Cut.j0 k a1 true a0_0 a0_1 a0_2 a0_3 a0_4)))=some (r1,r2,r3,r4,r5):=h
 clear h
 have HC3 := D H
 clear H
 go_enter Try.func44, Try.ntmps44
 go_upto_region 1 with (first|((with_reducible refine gate_dst (N:=2) rfl ?_);refine bx_ (N:=2) (cs:=#[I L a0_0,I L a0_1,I L a0_2,I L a0_3,I L a0_4]) (t:=35) ?_;intro Ua hg w4 hbox hb;have n_:=an_ (below_step (pB_ HB.out) hb)<|an_ (hbox)<|an_ (bg_ hg (pB_ HB.out):w.heap.size≤Ua)<|D (bg_ hg (pB_ HB.out):w.heap.size≤Ua);clear HB;obtain ⟨HB,Ja,Xr,Js⟩:=n_;clear hb hbox hg)|((with_reducible refine gate_dst (N:=4) rfl ?_);refine bx_ (N:=4) (cs:=#[I L 0,I L 0,I L 0,I L 0,I L 0]) (t:=35) ?_;intro Oa hg w5 hbox hb;have n_:=an_ (blk_below (pk_ Ja.out) hb)<|an_ (below_step (pB_ HB.out) hb)<|an_ (hbox)<|an_ (bg_ hg (pB_ HB.out):w.heap.size≤Oa)<|an_ (bg_ hg (pB_ HB.out):w.heap.size≤Oa)<|an_ (nl_ hg (pk_ Ja.out):Ua≠Oa)<|D (by rw [hg];exact Nat.ne_of_gt (blk_lt (pk_ Ja.out)):Oa≠Ua);clear Ja HB;obtain ⟨Ja,HB,Ka,Ks,Ms,Kb,Mb⟩:=n_;clear hb hbox hg))
 (try simp only [Act.put, List.setIfInBounds_toArray, List.set_cons_zero, List.set_cons_succ])
 go_cut [23] (fun v23 wc=>∃ (kq:Nat) (Kc:Bool),v23=.bool Kc∧Aside0 (spec_Cut.j0 kq a1 Kc a0_0 a0_1 a0_2 a0_3 a0_4=some (r1,r2,r3,r4,r5))∧Aside0 (kq≤k)∧Aside0 (wc.heap[Ua]?=some (.cells #[I L a0_0,I L a0_1,I L a0_2,I L a0_3,I L a0_4] 35 (0,0)))∧Aside0 (wc.heap[Oa]?=some (.cells #[I L 0,I L 0,I L 0,I L 0,I L 0] 35 (0,0)))∧Aside0 (Below w.heap.size w wc))
 case first =>
  have H := HC3.out; clear HC3; obtain ⟨Uc, A60, H⟩ := bs_.mp H; (try dsimp only at H); have A6 := D A60; clear A60
  by_cases c7 : Uc = true
  ·subst c7
   rw [if_pos rfl] at H
   by_cases c8 : a1 < 0
   ·rw [if_pos c8] at H
    have c8b0:decide (a1 < 0)=true:=decide_eq_true c8;clear c8;refine rw_ c8b0 ?_;have H':=D H;clear H;(try have:=Kb.out);(try have:=Mb.out);have Xc:=cells5 Ja.out
    go_wp2_with (first|((with_reducible refine gate_callee (f:=42) rfl ?_);refine goesL_ (some 12) rfl rfl Try.func42 (by kernel_rfl) rfl #[.agg #[I L a0_0,I L a0_1,I L a0_2,I L a0_3,I L a0_4]] rfl Z6 ?_;(with_reducible refine (spec_AddrOk.calls a0_0 a0_1 a0_2 a0_3 a0_4 true _ A6.out).mono ?_);rintro e w11 ⟨rfl,hb⟩;refine ⟨_,rfl,?_⟩;have n_:=an_ (blk_below (pk_ Ja.out) hb)<|an_ (blk_below (pk_ Ka.out) hb)<|D (below_step (pB_ HB.out) hb);clear Ja Ka HB;obtain ⟨Ja,Ka,HB⟩:=n_;(try clear hb)))
    go_meet
    case rel => exact ⟨_, (true), Z11, H', ⟨by first | omega | exact Nat.le_refl _⟩, ⟨pk_ Ja.out⟩, ⟨pk_ Ka.out⟩, ⟨pB_ HB.out⟩⟩
   ·rw [if_neg c8] at H
    have c8b0:decide (a1 < 0)=false:=decide_eq_false c8;clear c8;refine rw_ c8b0 ?_;obtain ⟨Jc,A120,H⟩:=bs_.mp H;(try dsimp only at H);have A12:=D A120;clear A120;have H':=D H;clear H;(try have:=Kb.out);(try have:=Mb.out);have Ue:=cells5 Ja.out
    go_wp2_with (first|((with_reducible refine gate_callee (f:=42) rfl ?_);refine goesL_ (some 12) rfl rfl Try.func42 (by kernel_rfl) rfl #[.agg #[I L a0_0,I L a0_1,I L a0_2,I L a0_3,I L a0_4]] rfl Z6 ?_;(with_reducible refine (spec_AddrOk.calls a0_0 a0_1 a0_2 a0_3 a0_4 true _ A6.out).mono ?_);rintro e w15 ⟨rfl,hb⟩;refine ⟨_,rfl,?_⟩;have n_:=an_ (blk_below (pk_ Ja.out) hb)<|an_ (blk_below (pk_ Ka.out) hb)<|D (below_step (pB_ HB.out) hb);clear Ja Ka HB;obtain ⟨Ja,Ka,HB⟩:=n_;(try clear hb);have Mg:=cells5 Ja.out)|(go_at_call 43;(with_reducible refine (spec_l03Bits.calls a0_0 a0_1 a0_2 a0_3 a0_4 Jc _ A12.out).mono ?_);rintro e w17 ⟨rfl,hb⟩;have n_:=an_ (blk_below (pk_ Ja.out) hb)<|an_ (blk_below (pk_ Ka.out) hb)<|D (below_step (pB_ HB.out) hb);clear Ja Ka HB;obtain ⟨Ja,Ka,HB⟩:=n_;(try clear hb)))
    go_meet
    case rel => exact ⟨_, (decide (a1 > Jc)), Z11, H', ⟨by first | omega | exact Nat.le_refl _⟩, ⟨pk_ Ja.out⟩, ⟨pk_ Ka.out⟩, ⟨pB_ HB.out⟩⟩
  ·replace c7 := Bool.eq_false_iff.mpr c7
   subst c7;rw [if_neg (show ¬ (false=true) by decide)] at H;have H':=D H;clear H;(try have:=Kb.out);(try have:=Mb.out);have Ji:=cells5 Ja.out
   go_wp2_with (first|((with_reducible refine gate_callee (f:=42) rfl ?_);refine goesL_ (some 12) rfl rfl Try.func42 (by kernel_rfl) rfl #[.agg #[I L a0_0,I L a0_1,I L a0_2,I L a0_3,I L a0_4]] rfl Z6 ?_;(with_reducible refine (spec_AddrOk.calls a0_0 a0_1 a0_2 a0_3 a0_4 false _ A6.out).mono ?_);rintro e w20 ⟨rfl,hb⟩;refine ⟨_,rfl,?_⟩;have n_:=an_ (blk_below (pk_ Ja.out) hb)<|an_ (blk_below (pk_ Ka.out) hb)<|D (below_step (pB_ HB.out) hb);clear Ja Ka HB;obtain ⟨Ja,Ka,HB⟩:=n_;(try clear hb)))
   go_meet
   case rel => exact ⟨_, (true), Z11, H', ⟨by first | omega | exact Nat.le_refl _⟩, ⟨pk_ Ja.out⟩, ⟨pk_ Ka.out⟩, ⟨pB_ HB.out⟩⟩
 case rest =>
  clear HC3
  (try clear c1);(try clear p2);(try clear c4);(try clear c7);(try clear c8);(try clear c8b0);(try clear c9);(try clear c13);(try clear c18);(try clear Xc);(try clear Ue);(try clear Mg);(try clear Ji)
  obtain ⟨kq, Kc, rfl, HA, HJ2, Ja, Ka, HB⟩ := hcut
  cases kq with
  | zero => exact absurd HA.out (by simp [spec_Cut.j0])
  | succ kj2 =>
   have H := HA.out; clear HA; simp only [spec_Cut.j0] at H
   by_cases c21 : Kc = true
   ·subst c21
    rw [if_pos rfl] at H;simp only [Option.some.injEq,Prod.mk.injEq] at H;obtain ⟨rfl,rfl,rfl,rfl,rfl⟩:=H;(try have:=Mb.out);(try have:=Kb.out);have Xj:=cells5 Ka.out
    go_wp2
    refine bodyPost_ret (results_cell_row rfl _ _ Oa 35 #[I L 0,I L 0,I L 0,I L 0,I L 0] (0,0) _ rfl Z1 Try.underlying35 rfl (by kernel_rfl)) rfl ?_;exact ⟨er_,pB_ HB.out⟩
   ·replace c21 := Bool.eq_false_iff.mpr c21
    subst c21;rw [if_neg (show ¬ (false=true) by decide)] at H;obtain ⟨Om,A240,H⟩:=bs_.mp H;(try dsimp only at H);have A24:=D A240;clear A240;have H':=D H;clear H;(try have:=Kb.out);(try have:=Mb.out);have Um:=cells5 Ja.out
    go_wp2_with (first|((with_reducible refine gate_callee (f:=56) rfl ?_);refine goesL_ (some 26) rfl rfl Try.func56 (by kernel_rfl) rfl #[.agg #[I L a0_0,I L a0_1,I L a0_2,I L a0_3,I L a0_4]] rfl Z6 ?_;(with_reducible refine (spec_AddrBytes.calls a0_0 a0_1 a0_2 a0_3 a0_4 Om _ A24.out).mono ?_);rintro e w27 ⟨Mo,rfl,ho0,hb⟩;refine ⟨_,rfl,?_⟩;have n_:=an_ (Kd.R_lower ho0 (below_size (pB_ HB.out)))<|an_ (blk_below (pk_ Ja.out) hb)<|an_ (blk_below (pk_ Ka.out) hb)<|D (below_step (pB_ HB.out) hb);clear Ja Ka HB;obtain ⟨Xo,Ja,Ka,HB⟩:=n_;(try clear hb);(try clear ho0)))
    go_loopg [6] kj2 (fun kq v6 w'=>∃ (x5_2:List Int) (x6_2:Int),v6=I L x6_2∧Aside0 (spec_Cut.l0 kq x5_2 x6_2 a0_0 a0_1 a0_2 a0_3 a0_4=some (r1,r2,r3,r4,r5))∧Aside0 (kq≤kj2)∧Aside0 (Kd.R (Kd.int .u8) 5 w' w.heap.size (fun _=>True) Mo x5_2)∧Aside0 (w'.heap[Ua]?=some (.cells #[I L a0_0,I L a0_1,I L a0_2,I L a0_3,I L a0_4] 35 (0,0)))∧Aside0 (w'.heap[Oa]?=some (.cells #[I L 0,I L 0,I L 0,I L 0,I L 0] 35 (0,0)))∧Aside0 (Below w.heap.size w w'))
    case atStart => exact ⟨(Om), (a1), Z11, H', ⟨Nat.le_refl _⟩, ⟨pR_ Xo.out⟩, ⟨pk_ Ja.out⟩, ⟨pk_ Ka.out⟩, ⟨pB_ HB.out⟩⟩
    case round =>
     clear H'
     (try clear c1);(try clear c2);(try clear p2);(try clear c4);(try clear c5);(try clear c7);(try clear c8);(try clear c8b0);(try clear c9);(try clear c13);(try clear c18);(try clear c21);(try clear c22);(try clear c25);(try clear Xc);(try clear Ue);(try clear Mg);(try clear Ji);(try clear Xj);(try clear Um);(try clear p2)
     obtain ⟨x5_2, x6_2, rfl, HA, HK2, Ma, Ja, Ka, HB⟩ := hrel
     cases gk with
     | zero => exact absurd HA.out (by simp [spec_Cut.l0])
     | succ k2 =>
      have H:=HA.out;clear HA;simp only [spec_Cut.l0] at H;obtain ⟨Mc,A280,H⟩:=bs_.mp H;(try dsimp only at H);have A28:=D A280;clear A280;have HU29:=D H;clear H;(try have:=Kb.out);(try have:=Mb.out);have Jp:=cells5 Ja.out
      go_upto_if 31 with (first|((with_reducible refine gate_callee (f:=43) rfl ?_);refine goesL_ (some 30) rfl rfl Try.func43 (by kernel_rfl) rfl #[.agg #[I L a0_0,I L a0_1,I L a0_2,I L a0_3,I L a0_4]] rfl Z6 ?_;(with_reducible refine (spec_l03Bits.calls a0_0 a0_1 a0_2 a0_3 a0_4 Mc _ A28.out).mono ?_);rintro e w32 ⟨rfl,hb⟩;refine ⟨_,rfl,?_⟩;have n_:=an_ (Kd.R_below (pR_ Ma.out) hb)<|an_ (blk_below (pk_ Ja.out) hb)<|an_ (blk_below (pk_ Ka.out) hb)<|D (below_step (pB_ HB.out) hb);clear Ma Ja Ka HB;obtain ⟨Ma,Ja,Ka,HB⟩:=n_;(try clear hb)))
      have H := HU29.out; clear HU29
      by_cases c33 : x6_2 < Mc
      ·rw [if_pos c33] at H
       have c33b0:decide (x6_2 < Mc)=true:=decide_eq_true c33;clear c33;refine rw_ c33b0 ?_;have H':=D H;clear H
       go_wp2
       go_loopg [7,8] k2 (fun kq v7 v8 w'=>∃ (x7_3:Int) (x8_3:Int),v7=I L x7_3∧v8=I L x8_3∧Aside0 (spec_Cut.l1 kq x5_2 x6_2 x7_3 x8_3 a0_0 a0_1 a0_2 a0_3 a0_4=some (r1,r2,r3,r4,r5))∧Aside0 (kq≤k2)∧Aside0 (Kd.R (Kd.int .u8) 5 w' w.heap.size (fun _=>True) Mo x5_2)∧Aside0 (w'.heap[Ua]?=some (.cells #[I L a0_0,I L a0_1,I L a0_2,I L a0_3,I L a0_4] 35 (0,0)))∧Aside0 (w'.heap[Oa]?=some (.cells #[I L 0,I L 0,I L 0,I L 0,I L 0] 35 (0,0)))∧Aside0 (Below w.heap.size w w'))
       case atStart => exact ⟨(128), (Int.tmod x6_2 8), Z11, Z11, H', ⟨Nat.le_refl _⟩, ⟨pR_ Ma.out⟩, ⟨pk_ Ja.out⟩, ⟨pk_ Ka.out⟩, ⟨pB_ HB.out⟩⟩
       case round =>
        clear H'
        (try clear c1);(try clear c2);(try clear p2);(try clear c3);(try clear c4);(try clear c5);(try clear c7);(try clear c8);(try clear c8b0);(try clear c9);(try clear c13);(try clear c18);(try clear c21);(try clear c22);(try clear c25);(try clear c30);(try clear c33);(try clear c33b0);(try clear Xc);(try clear Ue);(try clear Mg);(try clear Ji);(try clear Xj);(try clear Um);(try clear Jp);(try clear p2)
        obtain ⟨x7_3, x8_3, rfl, rfl, HA, HK3, Ma, Ja, Ka, HB⟩ := hrel
        cases gk with
        | zero => exact absurd HA.out (by simp [spec_Cut.l1])
        | succ k3 =>
         have H := HA.out; clear HA; simp only [spec_Cut.l1] at H
         by_cases c34 : x8_3 > 0
         ·rw [if_pos c34] at H
          have c34b0 : decide (0 < x8_3) = true := decide_eq_true c34; clear c34; have H' := D H; clear H
          go_wp2
          go_roundg k3
          case measure => have := HJ2.out; have := HK2.out; have := HK3.out; omega
          case rel=>exact ⟨(wrap64 (Int.tdiv x7_3 2)),(wrap64 (x8_3 - 1)),Z11,Z11,H',⟨by have:=HJ2.out;have:=HK2.out;have:=HK3.out;omega⟩,⟨pR_ Ma.out⟩,⟨pk_ Ja.out⟩,⟨pk_ Ka.out⟩,⟨pB_ HB.out⟩⟩
         ·rw [if_neg c34] at H
          have c34b0 : decide (0 < x8_3) = false := decide_eq_false c34; clear c34; obtain ⟨ji35, hji35⟩ : ∃ j_ : Int, (wrap64 (Int.tdiv x6_2 8)) = j_ := ⟨_, rfl⟩
          replace H:(if 0≤(ji35) then (if (ji35) < (x5_2.length:Int) then (if x7_3=0 then (none) else (if (Int.tmod (wrap64 (Int.tdiv (wrap64 (rd x5_2 (ji35))) x7_3)) 2)=1 then (spec_Cut.l0 k3 (x5_2.set ((ji35):Int).toNat (((rd x5_2 (ji35)) - ((x7_3) % 256)) % 256)) (wrap64 (x6_2 + 1)) a0_0 a0_1 a0_2 a0_3 a0_4) else (spec_Cut.l0 k3 x5_2 (wrap64 (x6_2 + 1)) a0_0 a0_1 a0_2 a0_3 a0_4))) else (none)) else (none))=some (r1,r2,r3,r4,r5):=by first|(rw [hji35] at H;exact H)|(simp only [hji35] at H ⊢;exact H)
          have hji35w : (IntKind.i64.wrap (Int.tdiv x6_2 8)) = ji35 := (i64_w _).trans hji35
          by_cases c36 : 0 ≤ (ji35)
          ·rw [if_pos c36] at H
           have c36b0 : decide (0 ≤ (ji35)) = true := decide_eq_true c36; clear c36
           by_cases c37 : (ji35) < (x5_2.length : Int)
           ·rw [if_pos c37] at H
            have c37b0 : decide ((ji35) < (x5_2.length : Int)) = true := decide_eq_true c37; clear c37
            by_cases c38 : x7_3 = 0
            ·rw [if_pos c38] at H
             exact absurd H (by simp)
            ·rw [if_neg c38] at H
             have c38b0:(x7_3 == 0)=false:=beq_eq_false_iff_ne.mpr c38;have c38b1:(x7_3 != 0)=true:=bne_iff_ne.mpr c38;have HU39:=D H;clear H;obtain ⟨Os,Uq,eo40⟩:=Kd.R_slice Ma.out;subst eo40;have p179:0≤((ji35):Int):=od_ Z10;have q179:(ji35) < (x5_2.length:Int):=od_ Z10;obtain ⟨ad179,e179,hx179_0⟩:=Kd.at_int (Kd.R_reads' Ma.out).2.2 (ji35) p179 q179;cases e179;replace p179:=eq_true p179;replace q179:=eq_true q179
             go_upto_if 51 with (fail)
             have H := HU39.out; clear HU39
             by_cases c41 : (Int.tmod (wrap64 (Int.tdiv (wrap64 (rd x5_2 (ji35))) x7_3)) 2) = 1
             ·rw [if_pos c41] at H
              have c41b0:((Int.tmod (wrap64 (Int.tdiv (wrap64 (rd x5_2 (ji35))) x7_3)) 2) == 1)=true:=beq_iff_eq.mpr c41;have c41b1:((Int.tmod (wrap64 (Int.tdiv (wrap64 (rd x5_2 (ji35))) x7_3)) 2) != 1)=false:=bne_eq_false_iff_eq.mpr c41;clear c41;refine rw_ c41b0 ?_;obtain ⟨y181,hy181⟩:∃ y_:List Int,y_=(x5_2.set ((ji35):Int).toNat (((rd x5_2 (ji35)) - ((x7_3) % 256)) % 256)):=⟨_,rfl⟩
              replace H:(spec_Cut.l0 k3 y181 (wrap64 (x6_2 + 1)) a0_0 a0_1 a0_2 a0_3 a0_4)=some (r1,r2,r3,r4,r5):=by first|(rw [hy181];with_reducible exact H)|(have H2_:=(Option.bind_some _ _).symm.trans H;rw [hy181];with_reducible exact H2_)|(have H2_:=(Option.bind_some _ _).symm.trans H;with_reducible exact H2_)|with_reducible exact H|(rw [hy181];exact H)|exact H
              have Ny181:=D hy181;clear hy181;have H':=D H;clear H;have p180:0≤((ji35):Int):=od_ Z10;have q180:(ji35) < (x5_2.length:Int):=od_ Z10;obtain ⟨ad180,e180,hx180_0⟩:=Kd.at_int (Kd.R_reads' Ma.out).2.2 (ji35) p180 q180;obtain rfl:ad179=ad180:=(by injection e180);replace p180:=eq_true p180;replace q180:=eq_true q180;have p42:0≤((ji35):Int):=od_ Z10;have q42:((ji35):Int) < ((x5_2.length:Int):Int):=od_ Z10;obtain ⟨go42,Us,eo42,Oo,gl42,cl42,HG42⟩:=Kd.R_form Ma.out (by omega);(first|cases eo42|(injection eo42 with ea_ en_ ec_;(first|subst ea_|(injection ea_ with ea_;subst ea_));subst ec_;clear en_));have GB42:=D Oo;have GG42:=D HG42;clear Oo gl42 HG42;(first|simp only [add_plain] at hx179_0|skip);(first|simp only [add_plain] at hx180_0|skip);obtain ⟨hx42_0,hf42_0⟩:=Kd.R_celln 0 Ma.out ((ji35):Int) p42 q42;replace p42:=eq_true p42;replace q42:=eq_true q42;have HP43:=Kd.R_putg Ma.out ((ji35):Int) (((rd x5_2 (ji35)) - ((x7_3) % 256)) % 256)
              go_wp2_with (first|((with_reducible refine gate_store (t:=5) (p:=63) rfl ?_);refine store_event (t:=5) (p:=63) (v:=?vo_w44) (w1:=(wr.setCell ⟨go42,((ji35):Int).toNat,none⟩ (.int .u8 (((rd x5_2 (ji35)) - ((x7_3) % 256)) % 256)))) ?hg ?ho ?hn ?hr ?_;(case ho=>rfl);(case hg=>rfl);(case hn=>rfl);(case hr=>first|(go_simp;done)|(go_simp;rfl));intro w44 hw;have hg:wr.grownBy w44 (some go42):=(by rw [hw];exact HP43.2);have hp_:Kd.R (Kd.int .u8) 5 w44 w.heap.size (fun _=>True) (Y (some ⟨go42,0,none⟩) x5_2.length Uq) y181:=(by rw [hw,Ny181.out];exact HP43.1);clear HP43;have n_:=an_ (hp_)<|an_ (blk_grown (pk_ Ja.out) hg (Kd.R_ne Ma.out Ja.out (by decide)))<|an_ (blk_grown (pk_ Ka.out) hg (Kd.R_ne Ma.out Ka.out (by decide)))<|D (by rw [hw];exact below_set (HB.out) GB42.out:Below w.heap.size w w44);clear Ma Ja Ka HB;obtain ⟨Ma,Ja,Ka,HB⟩:=n_;clear hg hw hp_))
              go_roundg k3
              case measure => have := HJ2.out; have := HK2.out; have := HK3.out; omega
              case rel => exact ⟨(y181), (wrap64 (x6_2 + 1)), Z11, H', ⟨by have := HJ2.out; have := HK2.out; have := HK3.out; omega⟩, ⟨pR_ Ma.out⟩, ⟨pk_ Ja.out⟩, ⟨pk_ Ka.out⟩, ⟨pB_ HB.out⟩⟩
             ·rw [if_neg c41] at H
              have c41b0:((Int.tmod (wrap64 (Int.tdiv (wrap64 (rd x5_2 (ji35))) x7_3)) 2) == 1)=false:=beq_eq_false_iff_ne.mpr c41;have c41b1:((Int.tmod (wrap64 (Int.tdiv (wrap64 (rd x5_2 (ji35))) x7_3)) 2) != 1)=true:=bne_iff_ne.mpr c41;refine rw_ c41b0 ?_;have H':=D H;clear H
              go_wp2
              go_roundg k3
              case measure => have := HJ2.out; have := HK2.out; have := HK3.out; omega
              case rel => exact ⟨(x5_2), (wrap64 (x6_2 + 1)), Z11, H', ⟨by have := HJ2.out; have := HK2.out; have := HK3.out; omega⟩, ⟨pR_ Ma.out⟩, ⟨pk_ Ja.out⟩, ⟨pk_ Ka.out⟩, ⟨pB_ HB.out⟩⟩
           ·rw [if_neg c37] at H
            exact absurd H (by simp)
          ·rw [if_neg c36] at H
           exact absurd H (by simp)
      ·rw [if_neg c33] at H
       have c33b0:decide (x6_2 < Mc)=false:=decide_eq_false c33;clear c33;refine rw_ c33b0 ?_;obtain ⟨⟨Ob,Xb,Oc,Uj,Uo,Xq⟩,A450,H⟩:=bs_.mp H;(try dsimp only at H);have A45:=D A450;clear A450;simp only [Option.some.injEq,Prod.mk.injEq] at H;obtain ⟨rfl,rfl,rfl,rfl,rfl⟩:=H;obtain ⟨Jr,Kr,eo46⟩:=Kd.R_slice Ma.out;subst eo46
       go_wp2_with (first|((with_reducible refine gate_callee (f:=57) rfl ?_);refine goesL_ (some 66) rfl rfl Try.func57 (by kernel_rfl) rfl #[Y Jr x5_2.length Kr] rfl Z6 ?_;(with_reducible refine (spec_AddrOf.calls k2 _ _ x5_2 Ob Xb Oc Uj Uo Xq _ ?side1 ?side2 A45.out).mono ?_);(case side1=>exact pC_ ((Kd.R_reads' Ma.out).2.2));(case side2=>exact (Kd.R_reads' Ma.out).2.1);rintro e w47 ⟨rfl,hb⟩;refine ⟨_,rfl,?_⟩;have n_:=an_ (Kd.R_below (pR_ Ma.out) hb)<|an_ (blk_below (pk_ Ja.out) hb)<|an_ (blk_below (pk_ Ka.out) hb)<|D (below_step (pB_ HB.out) hb);clear Ma Ja Ka HB;obtain ⟨Ma,Ja,Ka,HB⟩:=n_;(try clear hb))|((with_reducible refine gate_dst (N:=9) rfl ?_);refine bx_ (N:=9) (cs:=#[I L 0,I L 0,I L 0,I L 0,I L 0]) (t:=35) ?_;intro Xa hg w48 hbox hb;have n_:=an_ (Kd.R_below (pR_ Ma.out) hb)<|an_ (blk_below (pk_ Ja.out) hb)<|an_ (blk_below (pk_ Ka.out) hb)<|an_ (below_step (pB_ HB.out) hb)<|an_ (hbox)<|an_ (bg_ hg (pB_ HB.out):w.heap.size≤Xa)<|an_ (bg_ hg (pB_ HB.out):w.heap.size≤Xa)<|an_ (nl_ hg (pk_ Ja.out):Ua≠Xa)<|an_ (ng_ hg (pk_ Ja.out):Xa≠Ua)<|an_ (nl_ hg (pk_ Ka.out):Oa≠Xa)<|D (by rw [hg];exact Nat.ne_of_gt (blk_lt (pk_ Ka.out)):Xa≠Oa);clear Ma Ja Ka HB;obtain ⟨Ma,Ja,Ka,HB,Jb,Xs,Ju,Mr,Or,Ub,Ur⟩:=n_;clear hb hbox hg;(try have:=Or.out);(try have:=Mr.out);(try have:=Ur.out);(try have:=Ub.out);have Ku:=cells5 Jb.out;(try have:=Mb.out);(try have:=Kb.out);have Xv:=cells5 Ka.out))
       refine bodyPost_ret (results_cell_row rfl _ _ Oa 35 #[I L Ob,I L Xb,I L Oc,I L Uj,I L Uo] (0,0) _ rfl (by exact pP_ Ka.out) Try.underlying35 rfl (by kernel_rfl)) rfl ?_;exact ⟨er_,pB_ HB.out⟩

end Go.Proofs.Ytjhgkonacdimfab.PFnExactCmdOk
