-- by a program of this session's, over the kit's words
import Derived.Test.YtjfknflhajeglabPZFnExactTreeTenant
import Derived.Test.YtjfknflhajeglabPFnExactTreeTenantx0
namespace Go.Proofs.Ytjfknflhajeglab.PFnExactTreeTenant
open Go.RowKit Go.Proofs.YtjfknflhajeglabW.PrintWords Go.Proofs.YtjfknflhajeglabW.PrintLast Go.Proofs.YtjfknflhajeglabW.PrintMore Go.Proofs.YtjfknflhajeglabV Go.Proofs.Ytjfknflhajeglab.ZFnExactTreeTenant
open Go.Value renaming int → I, slice → Y
open Go.IntKind renaming i64 → L
open Aside0 renaming mk → D
open Option renaming bind_eq_some_iff → bs_
attribute [local go_sem] max2_int min2_int max_two min_two max_three min_three max_four min_four   -- for this text's walks alone
set_option linter.unusedVariables false
set_option linter.unusedSimpArgs false

/-! ### laws_szKidS: function 32 -/
def laws_szKidS.f (l0 : List (S89)) (a1 : Int) : Option (Int) := if (wrap64 (a1 - (l0.length : Int))) < 0 then (some (-1)) else (some (wrap64 (a1 - (l0.length : Int))))
set_option maxHeartbeats 8000000 in
set_option maxRecDepth 100000 in
theorem laws_szKidS.calls (A0 : Option Addr) (c0 : Nat) (l0 : List (S89)) (a1 r : Int) (w : World) (hr0 : Kd.C k89 w A0 l0.length l0) (hc0 : l0.length ≤ c0) (h : laws_szKidS.f l0 a1 = some r) :
  Calls Try.prog 32 #[Y A0 l0.length c0, I L a1] w fun e w' => e = .returned (I L r) ∧ Drawn0 w w' := by
 have HR0 := D hr0
 have HC0 := D hc0
 clear hr0 hc0
 have H : (if (wrap64 (a1 - (l0.length : Int))) < 0 then (some (-1)) else (some (wrap64 (a1 - (l0.length : Int))))) = some r := h
 clear h
 by_cases c3 : (wrap64 (a1 - (l0.length : Int))) < 0
 ·rw [if_pos c3] at H
  have c3b0 : decide ((wrap64 (a1 - (l0.length : Int))) < 0) = true := decide_eq_true c3; clear c3; obtain rfl := Option.some.inj H; go_enter Try.func32, Try.ntmps32
  go_wp2
  go_ret; exact ⟨by first | rfl | (simp; done) | (simp [*]; done), by repeat (first | exact Drawn0.refl _ | apply Drawn0.step)⟩
 ·rw [if_neg c3] at H
  have c3b0 : decide ((wrap64 (a1 - (l0.length : Int))) < 0) = false := decide_eq_false c3; clear c3; obtain rfl := Option.some.inj H; go_enter Try.func32, Try.ntmps32
  go_wp2
  go_ret; exact ⟨by first | rfl | (simp; done) | (simp [*]; done), by repeat (first | exact Drawn0.refl _ | apply Drawn0.step)⟩

/-! ### laws_szFair: function 11 -/
def laws_szFair.f (a0_0 a0_1 a0_2 a0_3 : Int) (l0_4 : List (S89)) (a1 : Int) : Option (Int) := (laws_szKidS.f l0_4 a1).bind fun t102 => (if t102 < 0 then (some (-1)) else (some t102))
set_option maxHeartbeats 8000000 in
set_option maxRecDepth 100000 in
theorem laws_szFair.calls (a0_0 a0_1 a0_2 a0_3 : Int) (A0_4 : Option Addr) (c0_4 : Nat) (l0_4 : List (S89)) (a1 r : Int) (w : World) (hr0_4 : Kd.C k89 w A0_4 l0_4.length l0_4) (hc0_4 : l0_4.length ≤ c0_4) (h : laws_szFair.f a0_0 a0_1 a0_2 a0_3 l0_4 a1 = some r) :
  Calls Try.prog 11 #[.agg #[I L a0_0,I L a0_1,I L a0_2,I L a0_3,Y A0_4 l0_4.length c0_4],I L a1] w fun e w'=>e=.returned (I L r)∧Below w.heap.size w w':=by
 have hu26 := Try.underlying26
 have HR0_4 := D hr0_4
 have HC0_4 := D hc0_4
 clear hr0_4 hc0_4
 have HB := D (Below.refl w.heap.size w)
 have H : ((laws_szKidS.f l0_4 a1).bind fun t102 => (if t102 < 0 then (some (-1)) else (some t102))) = some r := h
 clear h
 obtain ⟨t102, A30, H⟩ := bs_.mp H
 (try dsimp only at H)
 have A3 := D A30
 clear A30
 have HU4 := D H
 clear H
 go_enter Try.func11, Try.ntmps11
 go_upto_if 10 with (first|((with_reducible refine gate_dst (N:=2) rfl ?_);refine bx_ (N:=2) (cs:=#[I L a0_0,I L a0_1,I L a0_2,I L a0_3,Y A0_4 l0_4.length c0_4]) (t:=26) ?_;intro gb101 hg w5 hbox hb;have n_:=an_ (below_step (pB_ HB.out) hb)<|an_ (hbox)<|an_ (bg_ hg (pB_ HB.out):w.heap.size≤gb101)<|D (bg_ hg (pB_ HB.out):w.heap.size≤gb101);clear HB;obtain ⟨HB,BK101,GW101,GE101⟩:=n_;clear hb hbox hg;have hcz6_0:=cells5 BK101.out)|((with_reducible refine gate_callee (f:=32) rfl ?_);refine goesL_ (some 8) rfl rfl Try.func32 (by kernel_rfl) rfl #[Y A0_4 l0_4.length c0_4,I L a1] rfl Z21 ?_;(with_reducible refine (laws_szKidS.calls _ _ l0_4 a1 t102 _ ?side1 ?side2 A3.out).mono ?_);(case side1=>exact pC_ (Kd.C_below HR0_4.out HB.out));(case side2=>exact HC0_4.out);rintro e w' ⟨rfl,⟨nd,rfl⟩⟩;refine ⟨_,rfl,?_⟩))
 have H := HU4.out
 clear HU4
 by_cases c7 : t102 < 0
 ·rw [if_pos c7] at H
  have c7b0:decide (t102 < 0)=true:=decide_eq_true c7;clear c7;refine rw_ c7b0 ?_;obtain rfl:=Option.some.inj H
  go_wp2
  go_ret; exact ⟨er_, pB_ HB.out⟩
 ·rw [if_neg c7] at H
  have c7b0:decide (t102 < 0)=false:=decide_eq_false c7;clear c7;refine rw_ c7b0 ?_;obtain rfl:=Option.some.inj H
  go_wp2
  go_ret; exact ⟨er_, pB_ HB.out⟩

/-! ### laws_szBranch: function 33 -/
def laws_szBranch.f (a0_0 a0_1 a0_2 a0_3 a0_4 : Int) (l0_5 : List (S89)) (a1 : Int) : Option (Int) := (laws_szFair.f a0_1 a0_2 a0_3 a0_4 l0_5 a1).bind fun t104 => (if t104 < 0 then (some (-1)) else (some t104))
set_option maxHeartbeats 8000000 in
set_option maxRecDepth 100000 in
theorem laws_szBranch.calls (a0_0 a0_1 a0_2 a0_3 a0_4 : Int) (A0_5 : Option Addr) (c0_5 : Nat) (l0_5 : List (S89)) (a1 r : Int) (w : World) (hr0_5 : Kd.C k89 w A0_5 l0_5.length l0_5) (hc0_5 : l0_5.length ≤ c0_5) (h : laws_szBranch.f a0_0 a0_1 a0_2 a0_3 a0_4 l0_5 a1 = some r) :
  Calls Try.prog 33 #[.agg #[I L a0_0,I L a0_1,I L a0_2,I L a0_3,I L a0_4,Y A0_5 l0_5.length c0_5],I L a1] w fun e w'=>e=.returned (I L r)∧Below w.heap.size w w':=by
 have hu67 := Try.underlying67
 have hu26 := Try.underlying26
 have HR0_5 := D hr0_5
 have HC0_5 := D hc0_5
 clear hr0_5 hc0_5
 have HB := D (Below.refl w.heap.size w)
 have H : ((laws_szFair.f a0_1 a0_2 a0_3 a0_4 l0_5 a1).bind fun t104 => (if t104 < 0 then (some (-1)) else (some t104))) = some r := h
 clear h
 obtain ⟨t104, A30, H⟩ := bs_.mp H
 (try dsimp only at H)
 have A3 := D A30
 clear A30
 have HU4 := D H
 clear H
 go_enter Try.func33, Try.ntmps33
 go_upto_if 10 with (first|((with_reducible refine gate_dst (N:=2) rfl ?_);refine bx_ (N:=2) (cs:=#[I L a0_0,I L a0_1,I L a0_2,I L a0_3,I L a0_4,Y A0_5 l0_5.length c0_5]) (t:=67) ?_;intro gb103 hg w5 hbox hb;have n_:=an_ (below_step (pB_ HB.out) hb)<|an_ (hbox)<|an_ (bg_ hg (pB_ HB.out):w.heap.size≤gb103)<|D (bg_ hg (pB_ HB.out):w.heap.size≤gb103);clear HB;obtain ⟨HB,BK103,GW103,GE103⟩:=n_;clear hb hbox hg;have hcz6_0:=cells6 BK103.out)|((with_reducible refine gate_callee (f:=11) rfl ?_);refine goesL_ (some 8) rfl rfl Try.func11 (by kernel_rfl) rfl #[.agg #[I L a0_1,I L a0_2,I L a0_3,I L a0_4,Y A0_5 l0_5.length c0_5],I L a1] rfl Z21 ?_;(with_reducible refine (laws_szFair.calls a0_1 a0_2 a0_3 a0_4 _ _ l0_5 a1 t104 _ ?side1 ?side2 A3.out).mono ?_);(case side1=>exact pC_ (Kd.C_below HR0_5.out HB.out));(case side2=>exact HC0_5.out);rintro e w7 ⟨rfl,hb⟩;refine ⟨_,rfl,?_⟩;have n_:=an_ (blk_below (pk_ BK103.out) hb)<|D (below_step (pB_ HB.out) hb);clear BK103 HB;obtain ⟨BK103,HB⟩:=n_;(try clear hb)))
 have H := HU4.out
 clear HU4
 by_cases c8 : t104 < 0
 ·rw [if_pos c8] at H
  have c8b0:decide (t104 < 0)=true:=decide_eq_true c8;clear c8;refine rw_ c8b0 ?_;obtain rfl:=Option.some.inj H
  go_wp2
  go_ret; exact ⟨er_, pB_ HB.out⟩
 ·rw [if_neg c8] at H
  have c8b0:decide (t104 < 0)=false:=decide_eq_false c8;clear c8;refine rw_ c8b0 ?_;obtain rfl:=Option.some.inj H
  go_wp2
  go_ret; exact ⟨er_, pB_ HB.out⟩

/-! ### laws_szBranchS: function 12 -/
def laws_szBranchS.l0 : Nat → List (S67) → Int → Int → Option (Int)
 | 0, _, _, _ => none
 | k + 1,x0,x1,x5=>if x5 < (x0.length:Int) then (if 0≤x5 then ((laws_szBranch.f ((rd_T67 x0 x5).f0) ((rd_T67 x0 x5).f1.f0) ((rd_T67 x0 x5).f1.f1.f0) ((rd_T67 x0 x5).f1.f1.f1) ((rd_T67 x0 x5).f1.f1.f2) ((rd_T67 x0 x5).f1.f2) x1).bind fun t106=>(if t106 < 0 then (some (-1)) else (laws_szBranchS.l0 k x0 t106 (wrap64 (x5 + 1))))) else (none)) else (some x1)
def laws_szBranchS.f (k : Nat) (l0 : List (S67)) (a1 : Int) : Option (Int) := if (wrap64 (a1 - (l0.length : Int))) < 0 then (some (-1)) else (laws_szBranchS.l0 k l0 (wrap64 (a1 - (l0.length : Int))) 0)
set_option maxHeartbeats 8000000 in
set_option maxRecDepth 100000 in
theorem laws_szBranchS.calls (k : Nat) (A0 : Option Addr) (c0 : Nat) (l0 : List (S67)) (a1 r : Int) (w : World) (hr0 : Kd.C k67 w A0 l0.length l0) (hc0 : l0.length ≤ c0) (h : laws_szBranchS.f k l0 a1 = some r) :
  Calls Try.prog 12 #[Y A0 l0.length c0, I L a1] w fun e w' => e = .returned (I L r) ∧ Below w.heap.size w w' := by
 have hu67 := Try.underlying67
 have HR0 := D hr0
 have HC0 := D hc0
 clear hr0 hc0
 have HB := D (Below.refl w.heap.size w)
 have H : (if (wrap64 (a1 - (l0.length : Int))) < 0 then (some (-1)) else (laws_szBranchS.l0 k l0 (wrap64 (a1 - (l0.length : Int))) 0)) = some r := h
 clear h
 by_cases c3 : (wrap64 (a1 - (l0.length : Int))) < 0
 ·rw [if_pos c3] at H
  have c3b0 : decide ((wrap64 (a1 - (l0.length : Int))) < 0) = true := decide_eq_true c3; clear c3; obtain rfl := Option.some.inj H; go_enter Try.func12, Try.ntmps12
  go_wp2
  go_ret; exact ⟨er_, pB_ HB.out⟩
 ·rw [if_neg c3] at H
  have c3b0 : decide ((wrap64 (a1 - (l0.length : Int))) < 0) = false := decide_eq_false c3; clear c3; have H' := D H; clear H; go_enter Try.func12, Try.ntmps12
  go_wp2
  go_loopg [1,5] k (fun kq v1 v5 w'=>∃ (x1_1:Int) (x5_1:Int),v1=I L x1_1∧v5=I L x5_1∧Aside0 (laws_szBranchS.l0 kq l0 x1_1 x5_1=some r)∧Aside0 (kq≤k)∧Aside0 (Below w.heap.size w w'))
  case atStart => exact ⟨(wrap64 (a1 - (l0.length : Int))), (0), Z53, Z53, H', ⟨Nat.le_refl _⟩, ⟨pB_ HB.out⟩⟩
  case round =>
   clear H'
   (try clear c1);(try clear p2);(try clear c3);(try clear c3b0)
   obtain ⟨x1_1, x5_1, rfl, rfl, HA, HK1, HB⟩ := hrel
   cases gk with
   | zero => exact absurd HA.out (by simp [laws_szBranchS.l0])
   | succ k1 =>
    have H := HA.out; clear HA; simp only [laws_szBranchS.l0] at H
    by_cases c4 : x5_1 < (l0.length : Int)
    ·rw [if_pos c4] at H
     have c4b0 : decide (x5_1 < (l0.length : Int)) = true := decide_eq_true c4; clear c4
     by_cases c5 : 0 ≤ x5_1
     ·rw [if_pos c5] at H
      have c5b0:decide (0≤x5_1)=true:=decide_eq_true c5;clear c5;obtain ⟨t106,A60,H⟩:=bs_.mp H;(try dsimp only at H);have A6:=D A60;clear A60;have HU7:=D H;clear H;have p105:0≤(x5_1:Int):=od_ Z52;have q105:x5_1 < (l0.length:Int):=od_ Z52;obtain ⟨ad105,A105_5,c105_5,e105,hx105_0,hx105_1,hx105_2,hx105_3,hx105_4,hx105_5,hl105_5,hi105_5⟩:=at_T67 HR0.out x5_1 p105 q105;cases e105;replace hx105_0:=rc_ HB.out hx105_0;replace hx105_1:=rc_ HB.out hx105_1;replace hx105_2:=rc_ HB.out hx105_2;replace hx105_3:=rc_ HB.out hx105_3;replace hx105_4:=rc_ HB.out hx105_4;replace hx105_5:=rc_ HB.out hx105_5;have HR105_5:=D hi105_5;have HC105_5:=D hl105_5;clear hi105_5 hl105_5;replace p105:=eq_true p105;replace q105:=eq_true q105
      go_upto_if 25 with (first|((with_reducible refine gate_callee (f:=33) rfl ?_);refine goesL_ (some 23) rfl rfl Try.func33 (by kernel_rfl) rfl #[.agg #[I L ((rd_T67 l0 x5_1).f0),I L ((rd_T67 l0 x5_1).f1.f0),I L ((rd_T67 l0 x5_1).f1.f1.f0),I L ((rd_T67 l0 x5_1).f1.f1.f1),I L ((rd_T67 l0 x5_1).f1.f1.f2),Y A105_5 ((rd_T67 l0 x5_1).f1.f2).length c105_5],I L x1_1] rfl Z21 ?_;(with_reducible refine (laws_szBranch.calls ((rd_T67 l0 x5_1).f0) ((rd_T67 l0 x5_1).f1.f0) ((rd_T67 l0 x5_1).f1.f1.f0) ((rd_T67 l0 x5_1).f1.f1.f1) ((rd_T67 l0 x5_1).f1.f1.f2) _ _ ((rd_T67 l0 x5_1).f1.f2) x1_1 t106 _ ?side1 ?side2 A6.out).mono ?_);(case side1=>exact pC_ (Kd.C_below HR105_5.out HB.out));(case side2=>exact HC105_5.out);rintro e w8 ⟨rfl,hb⟩;refine ⟨_,rfl,?_⟩;have n0_:=D (below_step (pB_ HB.out) hb);clear HB;have HB:=n0_;clear n0_;(try clear hb)))
      have H := HU7.out; clear HU7
      by_cases c9 : t106 < 0
      ·rw [if_pos c9] at H
       have c9b0:decide (t106 < 0)=true:=decide_eq_true c9;clear c9;refine rw_ c9b0 ?_;obtain rfl:=Option.some.inj H
       go_wp2
       go_ret; exact ⟨er_, pB_ HB.out⟩
      ·rw [if_neg c9] at H
       have c9b0:decide (t106 < 0)=false:=decide_eq_false c9;clear c9;refine rw_ c9b0 ?_;have H':=D H;clear H
       go_wp2
       go_roundg k1
       case measure => have := HK1.out; omega
       case rel => exact ⟨(t106), (wrap64 (x5_1 + 1)), Z53, Z53, H', ⟨by have := HK1.out; omega⟩, ⟨pB_ HB.out⟩⟩
     ·rw [if_neg c5] at H
      exact absurd H (by simp)
    ·rw [if_neg c4] at H
     have c4b0 : decide (x5_1 < (l0.length : Int)) = false := decide_eq_false c4; clear c4; obtain rfl := Option.some.inj H
     go_wp2
     go_ret; exact ⟨er_, pB_ HB.out⟩

/-! ### laws_szTree: function 4 -/
def laws_szTree.f (k : Nat) (a0_0 a0_1 a0_2 a0_3 : Int) (l0_4 : List (S89)) (l0_5 : List (S67)) (a1 : Int) : Option (Int) := (laws_szFair.f a0_0 a0_1 a0_2 a0_3 l0_4 a1).bind fun t108 => (if t108 < 0 then (some (-1)) else ((laws_szBranchS.f k l0_5 t108).bind fun t109 => (if t109 < 0 then (some (-1)) else (some t109))))
set_option maxHeartbeats 8000000 in
set_option maxRecDepth 100000 in
theorem laws_szTree.calls (k : Nat) (a0_0 a0_1 a0_2 a0_3 : Int) (A0_4 : Option Addr) (c0_4 : Nat) (l0_4 : List (S89)) (A0_5 : Option Addr) (c0_5 : Nat) (l0_5 : List (S67)) (a1 r : Int) (w : World) (hr0_4 : Kd.C k89 w A0_4 l0_4.length l0_4) (hc0_4 : l0_4.length ≤ c0_4) (hr0_5 : Kd.C k67 w A0_5 l0_5.length l0_5) (hc0_5 : l0_5.length ≤ c0_5) (h : laws_szTree.f k a0_0 a0_1 a0_2 a0_3 l0_4 l0_5 a1 = some r) :
  Calls Try.prog 4 #[.agg #[I L a0_0,I L a0_1,I L a0_2,I L a0_3,Y A0_4 l0_4.length c0_4,Y A0_5 l0_5.length c0_5],I L a1] w fun e w'=>e=.returned (I L r)∧Below w.heap.size w w':=by
 have hu29 := Try.underlying29
 have hu26 := Try.underlying26
 have HR0_4 := D hr0_4
 have HC0_4 := D hc0_4
 clear hr0_4 hc0_4
 have HR0_5 := D hr0_5
 have HC0_5 := D hc0_5
 clear hr0_5 hc0_5
 have HB := D (Below.refl w.heap.size w)
 have H:((laws_szFair.f a0_0 a0_1 a0_2 a0_3 l0_4 a1).bind fun t108=>(if t108 < 0 then (some (-1)) else ((laws_szBranchS.f k l0_5 t108).bind fun t109=>(if t109 < 0 then (some (-1)) else (some t109)))))=some r:=h
 clear h
 obtain ⟨t108, A30, H⟩ := bs_.mp H
 (try dsimp only at H)
 have A3 := D A30
 clear A30
 have HU4 := D H
 clear H
 go_enter Try.func4, Try.ntmps4
 go_upto_if 10 with (first|((with_reducible refine gate_dst (N:=2) rfl ?_);refine bx_ (N:=2) (cs:=#[I L a0_0,I L a0_1,I L a0_2,I L a0_3,Y A0_4 l0_4.length c0_4,Y A0_5 l0_5.length c0_5]) (t:=29) ?_;intro gb107 hg w5 hbox hb;have n_:=an_ (below_step (pB_ HB.out) hb)<|an_ (hbox)<|an_ (bg_ hg (pB_ HB.out):w.heap.size≤gb107)<|D (bg_ hg (pB_ HB.out):w.heap.size≤gb107);clear HB;obtain ⟨HB,BK107,GW107,GE107⟩:=n_;clear hb hbox hg;have hcz6_0:=cells6 BK107.out)|((with_reducible refine gate_callee (f:=11) rfl ?_);refine goesL_ (some 8) rfl rfl Try.func11 (by kernel_rfl) rfl #[.agg #[I L a0_0,I L a0_1,I L a0_2,I L a0_3,Y A0_4 l0_4.length c0_4],I L a1] rfl Z21 ?_;(with_reducible refine (laws_szFair.calls a0_0 a0_1 a0_2 a0_3 _ _ l0_4 a1 t108 _ ?side1 ?side2 A3.out).mono ?_);(case side1=>exact pC_ (Kd.C_below HR0_4.out HB.out));(case side2=>exact HC0_4.out);rintro e w7 ⟨rfl,hb⟩;refine ⟨_,rfl,?_⟩;have n_:=an_ (blk_below (pk_ BK107.out) hb)<|D (below_step (pB_ HB.out) hb);clear BK107 HB;obtain ⟨BK107,HB⟩:=n_;(try clear hb)))
 have H := HU4.out
 clear HU4
 by_cases c8 : t108 < 0
 ·rw [if_pos c8] at H
  have c8b0:decide (t108 < 0)=true:=decide_eq_true c8;clear c8;refine rw_ c8b0 ?_;obtain rfl:=Option.some.inj H
  go_wp2
  go_ret; exact ⟨er_, pB_ HB.out⟩
 ·rw [if_neg c8] at H
  have c8b0:decide (t108 < 0)=false:=decide_eq_false c8;clear c8;refine rw_ c8b0 ?_;obtain ⟨t109,A90,H⟩:=bs_.mp H;(try dsimp only at H);have A9:=D A90;clear A90;have HU10:=D H;clear H;have hcz11_0:=cells6 BK107.out
  go_upto_if 16 with (first|((with_reducible refine gate_callee (f:=12) rfl ?_);refine goesL_ (some 14) rfl rfl Try.func12 (by kernel_rfl) rfl #[Y A0_5 l0_5.length c0_5,I L t108] rfl Z21 ?_;(with_reducible refine (laws_szBranchS.calls k _ _ l0_5 t108 t109 _ ?side1 ?side2 A9.out).mono ?_);(case side1=>exact pC_ (Kd.C_below HR0_5.out HB.out));(case side2=>exact HC0_5.out);rintro e w12 ⟨rfl,hb⟩;refine ⟨_,rfl,?_⟩;have n_:=an_ (blk_below (pk_ BK107.out) hb)<|D (below_step (pB_ HB.out) hb);clear BK107 HB;obtain ⟨BK107,HB⟩:=n_;(try clear hb)))
  have H := HU10.out; clear HU10
  by_cases c13 : t109 < 0
  ·rw [if_pos c13] at H
   have c13b0:decide (t109 < 0)=true:=decide_eq_true c13;clear c13;refine rw_ c13b0 ?_;obtain rfl:=Option.some.inj H
   go_wp2
   go_ret; exact ⟨er_, pB_ HB.out⟩
  ·rw [if_neg c13] at H
   have c13b0:decide (t109 < 0)=false:=decide_eq_false c13;clear c13;refine rw_ c13b0 ?_;obtain rfl:=Option.some.inj H
   go_wp2
   go_ret; exact ⟨er_, pB_ HB.out⟩

/-! ### spec_Stride: function 36 -/
def spec_Stride.f (a0 : Int) : Option (Int) := if a0 < 1 then (some 0) else (if a0 > 10 then (some 0) else (if a0 = 0 then (none) else (some (wrap64 (Int.tdiv (2520 : Int) a0)))))
set_option maxHeartbeats 8000000 in
set_option maxRecDepth 100000 in
theorem spec_Stride.calls (a0 r : Int) (w : World) (h : spec_Stride.f a0 = some r) :
  Calls Try.prog 36 #[I L a0] w fun e w' => e = .returned (I L r) ∧ Drawn0 w w' := by
 have H : (if a0 < 1 then (some 0) else (if a0 > 10 then (some 0) else (if a0 = 0 then (none) else (some (wrap64 (Int.tdiv (2520 : Int) a0)))))) = some r := h
 clear h
 by_cases c2 : a0 < 1
 ·rw [if_pos c2] at H
  have c2b0 : decide (a0 < 1) = true := decide_eq_true c2; clear c2; obtain rfl := Option.some.inj H; go_enter Try.func36, Try.ntmps36
  go_wp2
  go_ret; exact ⟨by first | rfl | (simp; done) | (simp [*]; done), by repeat (first | exact Drawn0.refl _ | apply Drawn0.step)⟩
 ·rw [if_neg c2] at H
  have c2b0 : decide (a0 < 1) = false := decide_eq_false c2; clear c2
  by_cases c3 : a0 > 10
  ·rw [if_pos c3] at H
   have c3b0 : decide (10 < a0) = true := decide_eq_true c3; clear c3; obtain rfl := Option.some.inj H; go_enter Try.func36, Try.ntmps36
   go_wp2
   go_ret; exact ⟨by first | rfl | (simp; done) | (simp [*]; done), by repeat (first | exact Drawn0.refl _ | apply Drawn0.step)⟩
  ·rw [if_neg c3] at H
   have c3b0 : decide (10 < a0) = false := decide_eq_false c3; clear c3
   by_cases c4 : a0 = 0
   ·rw [if_pos c4] at H
    exact absurd H (by simp)
   ·rw [if_neg c4] at H
    have c4b0 : (a0 == 0) = false := beq_eq_false_iff_ne.mpr c4; have c4b1 : (a0 != 0) = true := bne_iff_ne.mpr c4; obtain rfl := Option.some.inj H; go_enter Try.func36, Try.ntmps36
    go_wp2
    go_ret; exact ⟨by first | rfl | (simp; done) | (simp [*]; done), by repeat (first | exact Drawn0.refl _ | apply Drawn0.step)⟩

/-! ### spec_l13Delta: function 39 -/
def spec_l13Delta.f (a0 : Int) : Option (Bool) := if a0 ≥ 0 then (some (decide (a0 ≤ 10000000))) else (some false)
set_option maxHeartbeats 8000000 in
set_option maxRecDepth 100000 in
theorem spec_l13Delta.calls (a0 : Int) (r : Bool) (w : World) (h : spec_l13Delta.f a0 = some r) :
  Calls Try.prog 39 #[I L a0] w fun e w' => e = .returned (.bool r) ∧ Drawn0 w w' := by
 have H : (if a0 ≥ 0 then (some (decide (a0 ≤ 10000000))) else (some false)) = some r := h
 clear h
 by_cases c2 : a0 ≥ 0
 ·rw [if_pos c2] at H
  have c2b0 : decide (0 ≤ a0) = true := decide_eq_true c2; clear c2; obtain rfl := Option.some.inj H; go_enter Try.func39, Try.ntmps39
  go_wp2
  go_ret; exact ⟨by first | rfl | (simp; done) | (simp [*]; done), by repeat (first | exact Drawn0.refl _ | apply Drawn0.step)⟩
 ·rw [if_neg c2] at H
  have c2b0 : decide (0 ≤ a0) = false := decide_eq_false c2; clear c2; obtain rfl := Option.some.inj H; go_enter Try.func39, Try.ntmps39
  go_wp2
  go_ret; exact ⟨by first | rfl | (simp; done) | (simp [*]; done), by repeat (first | exact Drawn0.refl _ | apply Drawn0.step)⟩

/-! ### spec_VecTop: function 60 -/
def spec_VecTop.f (a0_0 a0_1 a0_2 : Int) : Option (Int) := some (mx (mx a0_0 a0_1) a0_2)
set_option maxHeartbeats 8000000 in
set_option maxRecDepth 100000 in
theorem spec_VecTop.calls (a0_0 a0_1 a0_2 r : Int) (w : World) (h : spec_VecTop.f a0_0 a0_1 a0_2 = some r) :
  Calls Try.prog 60 #[.agg #[I L a0_0, I L a0_1, I L a0_2]] w fun e w' => e = .returned (I L r) ∧ Below w.heap.size w w' := by
 have hu31 := Try.underlying31
 have HB := D (Below.refl w.heap.size w)
 have H : (some (mx (mx a0_0 a0_1) a0_2)) = some r := h
 clear h
 obtain ⟨ji2, hji2⟩ : ∃ j_ : Int, (mx a0_0 a0_1) = j_ := ⟨_, rfl⟩
 replace H : (some (mx (ji2) a0_2)) = some r := by first | (rw [hji2] at H; exact H) | (simp only [hji2] at H ⊢; exact H)
 have hji2_ : (if a0_0 < a0_1 then a0_1 else a0_0) = ji2 := hji2
 obtain ⟨ji3, hji3⟩ : ∃ j_ : Int, (mx (ji2) a0_2) = j_ := ⟨_, rfl⟩
 replace H : (some ji3) = some r := by first | (rw [hji3] at H; exact H) | (simp only [hji3] at H ⊢; exact H)
 have hji3_ : (if (ji2) < a0_2 then a0_2 else (ji2)) = ji3 := hji3
 obtain rfl := Option.some.inj H
 go_enter Try.func60, Try.ntmps60
 go_wp2_with (first|((with_reducible refine gate_dst (N:=1) rfl ?_);refine bx_ (N:=1) (cs:=#[I L a0_0,I L a0_1,I L a0_2]) (t:=31) ?_;intro gb110 hg w4 hbox hb;have n_:=an_ (below_step (pB_ HB.out) hb)<|an_ (hbox)<|an_ (bg_ hg (pB_ HB.out):w.heap.size≤gb110)<|D (bg_ hg (pB_ HB.out):w.heap.size≤gb110);clear HB;obtain ⟨HB,BK110,GW110,GE110⟩:=n_;clear hb hbox hg;have hcz5_0:=cells3 BK110.out))
 go_ret
 exact ⟨by first|rfl|(simp [errW_none,errW_some] <;> rfl)|(simp only [← hji2,← hji3];first|rfl|(simp [errW_none,errW_some] <;> rfl))|(simp [*,errW_none,errW_some] <;> rfl),pB_ HB.out⟩

/-! ### spec_l13All: function 78 -/
def spec_l13All.f (a0_0 a0_1 a0_2 a1 a2 : Int) : Option (Bool) := if a0_0 ≥ a1 then (if a0_0 ≤ a2 then (if a0_1 ≥ a1 then (if a0_1 ≤ a2 then (if a0_2 ≥ a1 then (some (decide (a0_2 ≤ a2))) else (some false)) else (some false)) else (some false)) else (some false)) else (some false)
set_option maxHeartbeats 8000000 in
set_option maxRecDepth 100000 in
theorem spec_l13All.calls (a0_0 a0_1 a0_2 a1 a2 : Int) (r : Bool) (w : World) (h : spec_l13All.f a0_0 a0_1 a0_2 a1 a2 = some r) :
  Calls Try.prog 78 #[.agg #[I L a0_0, I L a0_1, I L a0_2], I L a1, I L a2] w fun e w' => e = .returned (.bool r) ∧ Below w.heap.size w w' := by
 have hu31 := Try.underlying31
 have HB := D (Below.refl w.heap.size w)
 have H:(if a0_0 ≥ a1 then (if a0_0≤a2 then (if a0_1 ≥ a1 then (if a0_1≤a2 then (if a0_2 ≥ a1 then (some (decide (a0_2≤a2))) else (some false)) else (some false)) else (some false)) else (some false)) else (some false))=some r:=h
 clear h
 by_cases c4 : a0_0 ≥ a1
 ·rw [if_pos c4] at H
  have c4b0 : decide (a1 ≤ a0_0) = true := decide_eq_true c4; clear c4
  by_cases c5 : a0_0 ≤ a2
  ·rw [if_pos c5] at H
   have c5b0 : decide (a0_0 ≤ a2) = true := decide_eq_true c5; clear c5
   by_cases c6 : a0_1 ≥ a1
   ·rw [if_pos c6] at H
    have c6b0 : decide (a1 ≤ a0_1) = true := decide_eq_true c6; clear c6
    by_cases c7 : a0_1 ≤ a2
    ·rw [if_pos c7] at H
     have c7b0 : decide (a0_1 ≤ a2) = true := decide_eq_true c7; clear c7
     by_cases c8 : a0_2 ≥ a1
     ·rw [if_pos c8] at H
      have c8b0 : decide (a1 ≤ a0_2) = true := decide_eq_true c8; clear c8; obtain rfl := Option.some.inj H; go_enter Try.func78, Try.ntmps78
      go_wp2_with (first|((with_reducible refine gate_dst (N:=3) rfl ?_);refine bx_ (N:=3) (cs:=#[I L a0_0,I L a0_1,I L a0_2]) (t:=31) ?_;intro gb111 hg w9 hbox hb;have n_:=an_ (below_step (pB_ HB.out) hb)<|an_ (hbox)<|an_ (bg_ hg (pB_ HB.out):w.heap.size≤gb111)<|D (bg_ hg (pB_ HB.out):w.heap.size≤gb111);clear HB;obtain ⟨HB,BK111,GW111,GE111⟩:=n_;clear hb hbox hg;have hcz10_0:=cells3 BK111.out))
      go_ret; exact ⟨er_, pB_ HB.out⟩
     ·rw [if_neg c8] at H
      have c8b0 : decide (a1 ≤ a0_2) = false := decide_eq_false c8; clear c8; obtain rfl := Option.some.inj H; go_enter Try.func78, Try.ntmps78
      go_wp2_with (first|((with_reducible refine gate_dst (N:=3) rfl ?_);refine bx_ (N:=3) (cs:=#[I L a0_0,I L a0_1,I L a0_2]) (t:=31) ?_;intro gb111 hg w11 hbox hb;have n_:=an_ (below_step (pB_ HB.out) hb)<|an_ (hbox)<|an_ (bg_ hg (pB_ HB.out):w.heap.size≤gb111)<|D (bg_ hg (pB_ HB.out):w.heap.size≤gb111);clear HB;obtain ⟨HB,BK111,GW111,GE111⟩:=n_;clear hb hbox hg;have hcz12_0:=cells3 BK111.out))
      go_ret; exact ⟨er_, pB_ HB.out⟩
    ·rw [if_neg c7] at H
     have c7b0 : decide (a0_1 ≤ a2) = false := decide_eq_false c7; clear c7; obtain rfl := Option.some.inj H; go_enter Try.func78, Try.ntmps78
     go_wp2_with (first|((with_reducible refine gate_dst (N:=3) rfl ?_);refine bx_ (N:=3) (cs:=#[I L a0_0,I L a0_1,I L a0_2]) (t:=31) ?_;intro gb111 hg w13 hbox hb;have n_:=an_ (below_step (pB_ HB.out) hb)<|an_ (hbox)<|an_ (bg_ hg (pB_ HB.out):w.heap.size≤gb111)<|D (bg_ hg (pB_ HB.out):w.heap.size≤gb111);clear HB;obtain ⟨HB,BK111,GW111,GE111⟩:=n_;clear hb hbox hg;have hcz14_0:=cells3 BK111.out))
     go_ret; exact ⟨er_, pB_ HB.out⟩
   ·rw [if_neg c6] at H
    have c6b0 : decide (a1 ≤ a0_1) = false := decide_eq_false c6; clear c6; obtain rfl := Option.some.inj H; go_enter Try.func78, Try.ntmps78
    go_wp2_with (first|((with_reducible refine gate_dst (N:=3) rfl ?_);refine bx_ (N:=3) (cs:=#[I L a0_0,I L a0_1,I L a0_2]) (t:=31) ?_;intro gb111 hg w15 hbox hb;have n_:=an_ (below_step (pB_ HB.out) hb)<|an_ (hbox)<|an_ (bg_ hg (pB_ HB.out):w.heap.size≤gb111)<|D (bg_ hg (pB_ HB.out):w.heap.size≤gb111);clear HB;obtain ⟨HB,BK111,GW111,GE111⟩:=n_;clear hb hbox hg;have hcz16_0:=cells3 BK111.out))
    go_ret; exact ⟨er_, pB_ HB.out⟩
  ·rw [if_neg c5] at H
   have c5b0 : decide (a0_0 ≤ a2) = false := decide_eq_false c5; clear c5; obtain rfl := Option.some.inj H; go_enter Try.func78, Try.ntmps78
   go_wp2_with (first|((with_reducible refine gate_dst (N:=3) rfl ?_);refine bx_ (N:=3) (cs:=#[I L a0_0,I L a0_1,I L a0_2]) (t:=31) ?_;intro gb111 hg w17 hbox hb;have n_:=an_ (below_step (pB_ HB.out) hb)<|an_ (hbox)<|an_ (bg_ hg (pB_ HB.out):w.heap.size≤gb111)<|D (bg_ hg (pB_ HB.out):w.heap.size≤gb111);clear HB;obtain ⟨HB,BK111,GW111,GE111⟩:=n_;clear hb hbox hg;have hcz18_0:=cells3 BK111.out))
   go_ret; exact ⟨er_, pB_ HB.out⟩
 ·rw [if_neg c4] at H
  have c4b0 : decide (a1 ≤ a0_0) = false := decide_eq_false c4; clear c4; obtain rfl := Option.some.inj H; go_enter Try.func78, Try.ntmps78
  go_wp2_with (first|((with_reducible refine gate_dst (N:=3) rfl ?_);refine bx_ (N:=3) (cs:=#[I L a0_0,I L a0_1,I L a0_2]) (t:=31) ?_;intro gb111 hg w19 hbox hb;have n_:=an_ (below_step (pB_ HB.out) hb)<|an_ (hbox)<|an_ (bg_ hg (pB_ HB.out):w.heap.size≤gb111)<|D (bg_ hg (pB_ HB.out):w.heap.size≤gb111);clear HB;obtain ⟨HB,BK111,GW111,GE111⟩:=n_;clear hb hbox hg;have hcz20_0:=cells3 BK111.out))
  go_ret; exact ⟨er_, pB_ HB.out⟩

/-! ### spec_TagOk: function 72 -/
def spec_TagOk.f (a0_0 a0_1 a0_2 : Int) : Option (Bool) := (spec_l13All.f a0_0 a0_1 a0_2 0 1000000000000).bind fun t113 => (some t113)
set_option maxHeartbeats 8000000 in
set_option maxRecDepth 100000 in
theorem spec_TagOk.calls (a0_0 a0_1 a0_2 : Int) (r : Bool) (w : World) (h : spec_TagOk.f a0_0 a0_1 a0_2 = some r) :
  Calls Try.prog 72 #[.agg #[I L a0_0, I L a0_1, I L a0_2]] w fun e w' => e = .returned (.bool r) ∧ Below w.heap.size w w' := by
 have hu31 := Try.underlying31
 have HB := D (Below.refl w.heap.size w)
 have H : ((spec_l13All.f a0_0 a0_1 a0_2 0 1000000000000).bind fun t113 => (some t113)) = some r := h
 clear h
 obtain ⟨t113, A20, H⟩ := bs_.mp H
 (try dsimp only at H)
 have A2 := D A20
 clear A20
 obtain rfl := Option.some.inj H
 go_enter Try.func72, Try.ntmps72
 go_wp2_with (first|((with_reducible refine gate_dst (N:=1) rfl ?_);refine bx_ (N:=1) (cs:=#[I L a0_0,I L a0_1,I L a0_2]) (t:=31) ?_;intro gb112 hg w3 hbox hb;have n_:=an_ (below_step (pB_ HB.out) hb)<|an_ (hbox)<|an_ (bg_ hg (pB_ HB.out):w.heap.size≤gb112)<|D (bg_ hg (pB_ HB.out):w.heap.size≤gb112);clear HB;obtain ⟨HB,BK112,GW112,GE112⟩:=n_;clear hb hbox hg;have hcz4_0:=cells3 BK112.out)|((with_reducible refine gate_callee (f:=78) rfl ?_);refine goesL_ (some 4) rfl rfl Try.func78 (by kernel_rfl) rfl #[.agg #[I L a0_0,I L a0_1,I L a0_2],I L 0,I L 1000000000000] rfl Z21 ?_;(with_reducible refine (spec_l13All.calls a0_0 a0_1 a0_2 0 1000000000000 t113 _ A2.out).mono ?_);rintro e w5 ⟨rfl,hb⟩;refine ⟨_,rfl,?_⟩;have n_:=an_ (blk_below (pk_ BK112.out) hb)<|D (below_step (pB_ HB.out) hb);clear BK112 HB;obtain ⟨BK112,HB⟩:=n_;(try clear hb)))
 go_ret
 exact ⟨er_, pB_ HB.out⟩

/-! ### spec_Narrow: function 59 -/
def spec_Narrow.f (a0_0 a0_1 a0_2 a1 : Int) : Option (Bool) := (spec_TagOk.f a0_0 a0_1 a0_2).bind fun t115 => (if t115 = true then ((spec_l13Delta.f a1).bind fun t116 => (if t116 = true then ((spec_VecTop.f a0_0 a0_1 a0_2).bind fun t117 => (some (decide ((mn (mn a0_0 a0_1) a0_2) ≥ (wrap64 (t117 - a1)))))) else (some false))) else (some false))
def spec_Narrow.T1 : Bool × List (List Nat × List Nat) := (true, [([], []), ([0], [0]), ([1, 1], [1]), ([2], [2]), ([3, 2, 2], [2, 3]), ([2, 4], [2, 4]), ([5, 4], [5]), ([6], [6]), ([7, 6], [6, 7]), ([6], [6]), ([9, 6], [6, 9]), ([6], [6]), ([11, 6], [6, 11]), ([8, 10, 12, 6], [6, 8, 10, 12]), ([6], [6]), ([14, 6, 6], [6, 14]), ([6], [6]), ([15, 16, 6], [6, 15, 16]), ([13, 17, 6], [6, 13, 17]), ([6, 18], [6, 18]), ([19, 15, 0, 1, 2, 3, 4, 5, 6, 7, 8, 9, 10, 11, 12, 13, 14, 15, 16, 17, 18, 19], [19])])
def spec_Narrow.B1 : List Nat := [0, 1, 3, 7, 15, 31, 63, 127, 255, 127, 639, 127, 2175, 8191, 127, 16511, 127, 114815, 262143, 524287, 1048575]
theorem spec_Narrow.tab1 : rtab .any (opsOf Try.f59 1) = spec_Narrow.T1 := by kernel_rfl
theorem spec_Narrow.bits1 : waitsOk spec_Narrow.T1.2 spec_Narrow.B1 = true := by kernel_rfl
set_option maxHeartbeats 8000000 in
set_option maxRecDepth 100000 in
theorem spec_Narrow.calls (a0_0 a0_1 a0_2 a1 : Int) (r : Bool) (w : World) (h : spec_Narrow.f a0_0 a0_1 a0_2 a1 = some r) :
  Calls Try.prog 59 #[.agg #[I L a0_0, I L a0_1, I L a0_2], I L a1] w fun e w' => e = .returned (.bool r) ∧ Below w.heap.size w w' := by
 have hu31 := Try.underlying31
 have HB := D (Below.refl w.heap.size w)
 have H:((spec_TagOk.f a0_0 a0_1 a0_2).bind fun t115=>(if t115=true then ((spec_l13Delta.f a1).bind fun t116=>(if t116=true then ((spec_VecTop.f a0_0 a0_1 a0_2).bind fun t117=>(some (decide ((mn (mn a0_0 a0_1) a0_2) ≥ (wrap64 (t117 - a1)))))) else (some false))) else (some false)))=some r:=h
 clear h
 obtain ⟨t115, A30, H⟩ := bs_.mp H
 (try dsimp only at H)
 have A3 := D A30
 clear A30
 by_cases c4 : t115 = true
 ·subst c4
  rw [if_pos rfl] at H; obtain ⟨t116, A50, H⟩ := bs_.mp H; (try dsimp only at H); have A5 := D A50; clear A50
  by_cases c6 : t116 = true
  ·subst c6
   rw [if_pos rfl] at H; obtain ⟨ji7, hji7⟩ : ∃ j_ : Int, (mn a0_0 a0_1) = j_ := ⟨_, rfl⟩
   replace H:((spec_VecTop.f a0_0 a0_1 a0_2).bind fun t117=>(some (decide ((mn (ji7) a0_2) ≥ (wrap64 (t117 - a1))))))=some r:=by first|(rw [hji7] at H;exact H)|(simp only [hji7] at H ⊢;exact H)
   (try rw [hji7] at A3); (try rw [hji7] at A5); have hji7_ : (if a0_1 < a0_0 then a0_1 else a0_0) = ji7 := hji7; obtain ⟨ji8, hji8⟩ : ∃ j_ : Int, (mn (ji7) a0_2) = j_ := ⟨_, rfl⟩
   replace H : ((spec_VecTop.f a0_0 a0_1 a0_2).bind fun t117 => (some (decide ((ji8) ≥ (wrap64 (t117 - a1)))))) = some r := by first | (rw [hji8] at H; exact H) | (simp only [hji8] at H ⊢; exact H)
   (try rw [hji8] at A3);(try rw [hji8] at A5);have hji8_:(if a0_2 < (ji7) then a0_2 else (ji7))=ji8:=hji8;obtain ⟨t117,A90,H⟩:=bs_.mp H;(try dsimp only at H);have A9:=D A90;clear A90;obtain rfl:=Option.some.inj H;go_enter Try.func59,Try.ntmps59
   try go_wp2_with (first|((with_reducible refine gate_dst (N:=2) rfl ?_);(try (refine gate_guard (by rfl) ?_;dsimp only));refine bx_ (N:=2) (cs:=#[I L a0_0,I L a0_1,I L a0_2]) (t:=31) ?_;intro gb114 hg w10 hbox hb;have n_:=an_ (below_step (pB_ HB.out) hb)<|an_ (hbox)<|an_ (bg_ hg (pB_ HB.out):w.heap.size≤gb114)<|D (bg_ hg (pB_ HB.out):w.heap.size≤gb114);clear HB;obtain ⟨HB,BK114,GW114,GE114⟩:=n_;clear hb hbox hg))
   have n_ := an_ (blk_drew BK114.out) <| D (below_drew1 HB.out)
   clear BK114 HB;obtain ⟨BK114,HB⟩:=n_;refine start_ (n:=21) (S:=fun w'=>w'.cell? ⟨gb114,0,none⟩=some (I L a0_0)∧w'.cell? ⟨gb114,1,none⟩=some (I L a0_1)∧w'.cell? ⟨gb114,2,none⟩=some (I L a0_2)) (ds:=[]) (bz 21 0) (by kernel_rfl) rfl (by kernel_rfl) (be3_ BK114.out) (fun hHeld=>?_);refine with_tabW spec_Narrow.tab1 spec_Narrow.bits1 (fun HT_ HW_=>?_);generalize w10.drew=w11 at BK114 HB hHeld ⊢;refine tb_ 0 rfl rfl hHeld Z51 ?_;refine oa_ 1 6 21 3 HT_ (fun K hK=>?_);refine goes_ Try.func72 (by kernel_rfl) rfl #[.agg #[I L a0_0,I L a0_1,I L a0_2]] (by rfl) rfl rfl Z21 ?_;with_reducible refine (spec_TagOk.calls a0_0 a0_1 a0_2 true _ A3.out).mono ?_
   rintro e w12 ⟨rfl, hb⟩; refine ⟨_, rfl, ?_⟩
   have n_ := an_ (blk_below (pk_ BK114.out) hb) <| D (below_step (pB_ HB.out) hb)
   clear BK114 HB;obtain ⟨BK114,HB⟩:=n_;refine hK.out _ _ (be3_ BK114.out) (fun hHeld=>?_);clear hK K;refine nx_ (N:=some 6) ?_;refine pb_ 2 ?_;refine pb_ 3 ?_;refine oa_ 4 9 21 31 HT_ (fun K hK=>?_);refine goes_ Try.func39 (by kernel_rfl) rfl #[I L a1] (by rfl) rfl rfl Z21 ?_;with_reducible refine (spec_l13Delta.calls a1 true _ A5.out).mono ?_
   rintro e w' ⟨rfl,⟨nd,rfl⟩⟩;refine ⟨_,rfl,?_⟩;refine hK.out _ _ (be3_ BK114.out) (fun hHeld=>?_);clear hK K;refine nx_ (N:=some 9) ?_;refine pb_ 5 ?_;refine pb_ 6 ?_;refine pb_ 7 ?_;refine pb_ 9 ?_;refine pb_ 11 ?_;refine pb_ 16 ?_;refine tb_ 8 rfl rfl hHeld Z51 ?_;refine tb_ 10 rfl rfl hHeld Z51 ?_;refine tb_ 12 rfl rfl hHeld Z51 ?_;refine pb_ 13 ?_;refine tb_ 14 rfl rfl hHeld Z51 ?_;refine oa_ 15 20 21 131071 HT_ (fun K hK=>?_);refine goes_ Try.func60 (by kernel_rfl) rfl #[.agg #[I L a0_0,I L a0_1,I L a0_2]] (by rfl) rfl rfl Z21 ?_;with_reducible refine (spec_VecTop.calls a0_0 a0_1 a0_2 t117 _ A9.out).mono ?_
   rintro e w13 ⟨rfl, hb⟩; refine ⟨_, rfl, ?_⟩
   have n_ := an_ (blk_below (pk_ BK114.out) hb) <| D (below_step (pB_ HB.out) hb)
   clear BK114 HB;obtain ⟨BK114,HB⟩:=n_;refine hK.out _ _ (be3_ BK114.out) (fun hHeld=>?_);clear hK K;refine nx_ (N:=some 20) ?_;refine pb_ 17 ?_;refine pb_ 18 ?_;refine pb_ 19 ?_;refine pb_ 20 ?_;refine done_ (done_of HT_.out (by kernel_rfl)) ?_
   try go_wp2
   go_ret;exact ⟨by first|rfl|(simp [errW_none,errW_some] <;> rfl)|(simp only [← hji7,← hji8];first|rfl|(simp [errW_none,errW_some] <;> rfl))|(simp [*,errW_none,errW_some] <;> rfl),pB_ HB.out⟩
  ·replace c6 := Bool.eq_false_iff.mpr c6
   subst c6; rw [if_neg (show ¬ (false = true) by decide)] at H; obtain rfl := Option.some.inj H; go_enter Try.func59, Try.ntmps59
   try go_wp2_with (first|((with_reducible refine gate_dst (N:=2) rfl ?_);(try (refine gate_guard (by rfl) ?_;dsimp only));refine bx_ (N:=2) (cs:=#[I L a0_0,I L a0_1,I L a0_2]) (t:=31) ?_;intro gb114 hg w14 hbox hb;have n_:=an_ (below_step (pB_ HB.out) hb)<|an_ (hbox)<|an_ (bg_ hg (pB_ HB.out):w.heap.size≤gb114)<|D (bg_ hg (pB_ HB.out):w.heap.size≤gb114);clear HB;obtain ⟨HB,BK114,GW114,GE114⟩:=n_;clear hb hbox hg))
   have n_ := an_ (blk_drew BK114.out) <| D (below_drew1 HB.out)
   clear BK114 HB;obtain ⟨BK114,HB⟩:=n_;refine start_ (n:=21) (S:=fun w'=>w'.cell? ⟨gb114,0,none⟩=some (I L a0_0)∧w'.cell? ⟨gb114,1,none⟩=some (I L a0_1)∧w'.cell? ⟨gb114,2,none⟩=some (I L a0_2)) (ds:=[]) (bz 21 0) (by kernel_rfl) rfl (by kernel_rfl) (be3_ BK114.out) (fun hHeld=>?_);refine with_tabW spec_Narrow.tab1 spec_Narrow.bits1 (fun HT_ HW_=>?_);generalize w14.drew=w15 at BK114 HB hHeld ⊢;refine tb_ 0 rfl rfl hHeld Z51 ?_;refine oa_ 1 6 21 3 HT_ (fun K hK=>?_);refine goes_ Try.func72 (by kernel_rfl) rfl #[.agg #[I L a0_0,I L a0_1,I L a0_2]] (by rfl) rfl rfl Z21 ?_;with_reducible refine (spec_TagOk.calls a0_0 a0_1 a0_2 true _ A3.out).mono ?_
   rintro e w16 ⟨rfl, hb⟩; refine ⟨_, rfl, ?_⟩
   have n_ := an_ (blk_below (pk_ BK114.out) hb) <| D (below_step (pB_ HB.out) hb)
   clear BK114 HB;obtain ⟨BK114,HB⟩:=n_;refine hK.out _ _ (be3_ BK114.out) (fun hHeld=>?_);clear hK K;refine nx_ (N:=some 6) ?_;refine pb_ 2 ?_;refine pb_ 3 ?_;refine oa_ 4 9 21 31 HT_ (fun K hK=>?_);refine goes_ Try.func39 (by kernel_rfl) rfl #[I L a1] (by rfl) rfl rfl Z21 ?_;with_reducible refine (spec_l13Delta.calls a1 false _ A5.out).mono ?_
   rintro e w' ⟨rfl,⟨nd,rfl⟩⟩;refine ⟨_,rfl,?_⟩;refine hK.out _ _ (be3_ BK114.out) (fun hHeld=>?_);clear hK K;refine nx_ (N:=some 9) ?_;refine pb_ 5 ?_;refine pb_ 6 ?_;refine ob_ 7 ?_;refine ob_ 8 ?_;refine ob_ 9 ?_;refine ob_ 10 ?_;refine ob_ 11 ?_;refine ob_ 12 ?_;refine ob_ 13 ?_;refine ob_ 14 ?_;refine ob_ 15 ?_;refine ob_ 16 ?_;refine ob_ 17 ?_;refine ob_ 18 ?_;refine pb_ 19 ?_;refine pb_ 20 ?_;refine done_ (done_of HT_.out (by kernel_rfl)) ?_
   try go_wp2
   go_ret; exact ⟨er_, pB_ HB.out⟩
 ·replace c4 := Bool.eq_false_iff.mpr c4
  subst c4; rw [if_neg (show ¬ (false = true) by decide)] at H; obtain rfl := Option.some.inj H; go_enter Try.func59, Try.ntmps59
  try go_wp2_with (first|((with_reducible refine gate_dst (N:=2) rfl ?_);(try (refine gate_guard (by rfl) ?_;dsimp only));refine bx_ (N:=2) (cs:=#[I L a0_0,I L a0_1,I L a0_2]) (t:=31) ?_;intro gb114 hg w17 hbox hb;have n_:=an_ (below_step (pB_ HB.out) hb)<|an_ (hbox)<|an_ (bg_ hg (pB_ HB.out):w.heap.size≤gb114)<|D (bg_ hg (pB_ HB.out):w.heap.size≤gb114);clear HB;obtain ⟨HB,BK114,GW114,GE114⟩:=n_;clear hb hbox hg))
  have n_ := an_ (blk_drew BK114.out) <| D (below_drew1 HB.out)
  clear BK114 HB;obtain ⟨BK114,HB⟩:=n_;refine start_ (n:=21) (S:=fun w'=>w'.cell? ⟨gb114,0,none⟩=some (I L a0_0)∧w'.cell? ⟨gb114,1,none⟩=some (I L a0_1)∧w'.cell? ⟨gb114,2,none⟩=some (I L a0_2)) (ds:=[]) (bz 21 0) (by kernel_rfl) rfl (by kernel_rfl) (be3_ BK114.out) (fun hHeld=>?_);refine with_tabW spec_Narrow.tab1 spec_Narrow.bits1 (fun HT_ HW_=>?_);generalize w17.drew=w18 at BK114 HB hHeld ⊢;refine tb_ 0 rfl rfl hHeld Z51 ?_;refine oa_ 1 6 21 3 HT_ (fun K hK=>?_);refine goes_ Try.func72 (by kernel_rfl) rfl #[.agg #[I L a0_0,I L a0_1,I L a0_2]] (by rfl) rfl rfl Z21 ?_;with_reducible refine (spec_TagOk.calls a0_0 a0_1 a0_2 false _ A3.out).mono ?_
  rintro e w19 ⟨rfl, hb⟩; refine ⟨_, rfl, ?_⟩
  have n_ := an_ (blk_below (pk_ BK114.out) hb) <| D (below_step (pB_ HB.out) hb)
  clear BK114 HB;obtain ⟨BK114,HB⟩:=n_;refine hK.out _ _ (be3_ BK114.out) (fun hHeld=>?_);clear hK K;refine nx_ (N:=some 6) ?_;refine pb_ 2 ?_;refine ob_ 3 ?_;refine ob_ 4 ?_;refine pb_ 5 ?_;refine pb_ 6 ?_;refine ob_ 7 ?_;refine ob_ 8 ?_;refine ob_ 9 ?_;refine ob_ 10 ?_;refine ob_ 11 ?_;refine ob_ 12 ?_;refine ob_ 13 ?_;refine ob_ 14 ?_;refine ob_ 15 ?_;refine ob_ 16 ?_;refine ob_ 17 ?_;refine ob_ 18 ?_;refine pb_ 19 ?_;refine pb_ 20 ?_;refine done_ (done_of HT_.out (by kernel_rfl)) ?_
  try go_wp2
  go_ret; exact ⟨er_, pB_ HB.out⟩

end Go.Proofs.Ytjfknflhajeglab.PFnExactTreeTenant
