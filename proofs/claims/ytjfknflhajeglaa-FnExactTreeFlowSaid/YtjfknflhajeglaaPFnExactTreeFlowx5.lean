-- by a program of this session's, over the kit's words
import Derived.Test.YtjfknflhajeglaaPZFnExactTreeFlow
import Derived.Test.YtjfknflhajeglaaPFnExactTreeFlowx0
namespace Go.Proofs.Ytjfknflhajeglaa.PFnExactTreeFlow
open Go.RowKit Go.Proofs.YtjfknflhajeglaaW.PrintWords Go.Proofs.YtjfknflhajeglaaW.PrintLast Go.Proofs.YtjfknflhajeglaaW.PrintMore Go.Proofs.YtjfknflhajeglaaV Go.Proofs.Ytjfknflhajeglaa.ZFnExactTreeFlow
open Go.Value renaming int → I, slice → Y
open Go.IntKind renaming i64 → L
open Aside0 renaming mk → D
open Option renaming bind_eq_some_iff → bs_
attribute [local go_sem] max2_int min2_int max_two min_two max_three min_three max_four min_four   -- for this text's walks alone
set_option linter.unusedVariables false
set_option linter.unusedSimpArgs false

/-! ### spec_l20At: function 14 -/
def spec_l20At.l0 : Nat → Int → Int → Int → Int → Int → Int → List (S67) → List (S50) → Option (Int)
 | 0, _, _, _, _, _, _, _, _ => none
 | k + 1,x1,x5,x153000,x153001,x153002,x153003,x153004,x153005=>if x5 < (x153005.length:Int) then (if 0≤x5 then (if ((rd_T50 x153005 x5).f0)=x1 then (some x5) else (spec_l20At.l0 k x1 (wrap64 (x5 + 1)) x153000 x153001 x153002 x153003 x153004 x153005)) else (none)) else (some (-1))
def spec_l20At.f (k : Nat) (a0_0 a0_1 a0_2 a0_3 : Int) (l0_4 : List (S67)) (l0_5 : List (S50)) (a1 : Int) : Option (Int) := spec_l20At.l0 k a1 0 a0_0 a0_1 a0_2 a0_3 l0_4 l0_5
set_option maxHeartbeats 8000000 in
set_option maxRecDepth 100000 in
theorem spec_l20At.calls (k : Nat) (a0_0 a0_1 a0_2 a0_3 : Int) (A0_4 : Option Addr) (c0_4 : Nat) (l0_4 : List (S67)) (A0_5 : Option Addr) (c0_5 : Nat) (l0_5 : List (S50)) (a1 r : Int) (w : World) (hr0_4 : Kd.C k67 w A0_4 l0_4.length l0_4) (hc0_4 : l0_4.length ≤ c0_4) (hr0_5 : Kd.C k50 w A0_5 l0_5.length l0_5) (hc0_5 : l0_5.length ≤ c0_5) (h : spec_l20At.f k a0_0 a0_1 a0_2 a0_3 l0_4 l0_5 a1 = some r) :
  Calls Try.prog 14 #[.agg #[I L a0_0,I L a0_1,I L a0_2,I L a0_3,Y A0_4 l0_4.length c0_4,Y A0_5 l0_5.length c0_5],I L a1] w fun e w'=>e=.returned (I L r)∧Below w.heap.size w w':=by
 have hu37 := Try.underlying37
 have HR0_4 := D hr0_4
 have HC0_4 := D hc0_4
 clear hr0_4 hc0_4
 have HR0_5 := D hr0_5
 have HC0_5 := D hc0_5
 clear hr0_5 hc0_5
 have HB := D (Below.refl w.heap.size w)
 have H : (spec_l20At.l0 k a1 0 a0_0 a0_1 a0_2 a0_3 l0_4 l0_5) = some r := h
 clear h
 have H' := D H
 clear H
 go_enter Try.func14, Try.ntmps14
 go_wp2_with (first|((with_reducible refine gate_dst (N:=2) rfl ?_);refine bx_ (N:=2) (cs:=#[I L a0_0,I L a0_1,I L a0_2,I L a0_3,Y A0_4 l0_4.length c0_4,Y A0_5 l0_5.length c0_5]) (t:=37) ?_;intro gb152 hg w3 hbox hb;have n_:=an_ (below_step (pB_ HB.out) hb)<|an_ (hbox)<|an_ (bg_ hg (pB_ HB.out):w.heap.size≤gb152)<|D (bg_ hg (pB_ HB.out):w.heap.size≤gb152);clear HB;obtain ⟨HB,BK152,GW152,GE152⟩:=n_;clear hb hbox hg))
 go_loopg [5] k (fun kq v5 w'=>∃ (x5_1:Int),v5=I L x5_1∧Aside0 (spec_l20At.l0 kq a1 x5_1 a0_0 a0_1 a0_2 a0_3 l0_4 l0_5=some r)∧Aside0 (kq≤k)∧Aside0 (w'.heap[gb152]?=some (.cells #[I L a0_0,I L a0_1,I L a0_2,I L a0_3,(Y A0_4 l0_4.length c0_4),(Y A0_5 l0_5.length c0_5)] 37 (0,0)))∧Aside0 (Below w.heap.size w w'))
 case atStart => exact ⟨(0), Z49, H', ⟨Nat.le_refl _⟩, ⟨pk_ BK152.out⟩, ⟨pB_ HB.out⟩⟩
 case round =>
  clear H'
  (try clear c1);(try clear p2)
  obtain ⟨x5_1, rfl, HA, HK1, BK152, HB⟩ := hrel
  cases gk with
  | zero => exact absurd HA.out (by simp [spec_l20At.l0])
  | succ k1 =>
   have H := HA.out; clear HA; simp only [spec_l20At.l0] at H
   by_cases c4 : x5_1 < (l0_5.length : Int)
   ·rw [if_pos c4] at H
    have c4b0 : decide (x5_1 < (l0_5.length : Int)) = true := decide_eq_true c4; clear c4
    by_cases c5 : 0 ≤ x5_1
    ·rw [if_pos c5] at H
     have c5b0:decide (0≤x5_1)=true:=decide_eq_true c5;clear c5;have HU6:=D H;clear H;have hcz7_0:=cells6 BK152.out;have p153:0≤(x5_1:Int):=od_ Z48;have q153:x5_1 < (l0_5.length:Int):=od_ Z48;obtain ⟨ad153,A153_5,c153_5,e153,hx153_0,hx153_1,hx153_2,hx153_3,hx153_4,hx153_5,hl153_5,hi153_5⟩:=at_T50 HR0_5.out x5_1 p153 q153;cases e153;replace hx153_0:=rc_ HB.out hx153_0;replace hx153_1:=rc_ HB.out hx153_1;replace hx153_2:=rc_ HB.out hx153_2;replace hx153_3:=rc_ HB.out hx153_3;replace hx153_4:=rc_ HB.out hx153_4;replace hx153_5:=rc_ HB.out hx153_5;have HR153_5:=D hi153_5;have HC153_5:=D hl153_5;clear hi153_5 hl153_5;replace p153:=eq_true p153;replace q153:=eq_true q153
     go_upto_if 20 with (fail)
     have H := HU6.out; clear HU6
     by_cases c8 : ((rd_T50 l0_5 x5_1).f0) = a1
     ·rw [if_pos c8] at H
      have c8b0:(((rd_T50 l0_5 x5_1).f0) == a1)=true:=beq_iff_eq.mpr c8;have c8b1:(((rd_T50 l0_5 x5_1).f0) != a1)=false:=bne_eq_false_iff_eq.mpr c8;clear c8;refine rw_ c8b0 ?_;obtain rfl:=Option.some.inj H
      go_wp2
      go_ret; exact ⟨er_, pB_ HB.out⟩
     ·rw [if_neg c8] at H
      have c8b0:(((rd_T50 l0_5 x5_1).f0) == a1)=false:=beq_eq_false_iff_ne.mpr c8;have c8b1:(((rd_T50 l0_5 x5_1).f0) != a1)=true:=bne_iff_ne.mpr c8;refine rw_ c8b0 ?_;have H':=D H;clear H
      go_wp2
      go_roundg k1
      case measure => have := HK1.out; omega
      case rel => exact ⟨(wrap64 (x5_1 + 1)), Z49, H', ⟨by have := HK1.out; omega⟩, ⟨pk_ BK152.out⟩, ⟨pB_ HB.out⟩⟩
    ·rw [if_neg c5] at H
     exact absurd H (by simp)
   ·rw [if_neg c4] at H
    have c4b0:decide (x5_1 < (l0_5.length:Int))=false:=decide_eq_false c4;clear c4;obtain rfl:=Option.some.inj H;have hcz9_0:=cells6 BK152.out
    go_wp2
    go_ret; exact ⟨er_, pB_ HB.out⟩

/-! ### spec_l18At: function 33 -/
def spec_l18At.l0 : Nat → Int → Int → Int → Int → Int → Int → List (S67) → Option (Int)
 | 0, _, _, _, _, _, _, _ => none
 | k + 1,x1,x5,x155000,x155001,x155002,x155003,x155004=>if x5 < (x155004.length:Int) then (if 0≤x5 then (if ((rd_T67 x155004 x5).f0)=x1 then (some x5) else (spec_l18At.l0 k x1 (wrap64 (x5 + 1)) x155000 x155001 x155002 x155003 x155004)) else (none)) else (some (-1))
def spec_l18At.f (k : Nat) (a0_0 a0_1 a0_2 a0_3 : Int) (l0_4 : List (S67)) (a1 : Int) : Option (Int) := spec_l18At.l0 k a1 0 a0_0 a0_1 a0_2 a0_3 l0_4
set_option maxHeartbeats 8000000 in
set_option maxRecDepth 100000 in
theorem spec_l18At.calls (k : Nat) (a0_0 a0_1 a0_2 a0_3 : Int) (A0_4 : Option Addr) (c0_4 : Nat) (l0_4 : List (S67)) (a1 r : Int) (w : World) (hr0_4 : Kd.C k67 w A0_4 l0_4.length l0_4) (hc0_4 : l0_4.length ≤ c0_4) (h : spec_l18At.f k a0_0 a0_1 a0_2 a0_3 l0_4 a1 = some r) :
  Calls Try.prog 33 #[.agg #[I L a0_0,I L a0_1,I L a0_2,I L a0_3,Y A0_4 l0_4.length c0_4],I L a1] w fun e w'=>e=.returned (I L r)∧Below w.heap.size w w':=by
 have hu34 := Try.underlying34
 have HR0_4 := D hr0_4
 have HC0_4 := D hc0_4
 clear hr0_4 hc0_4
 have HB := D (Below.refl w.heap.size w)
 have H : (spec_l18At.l0 k a1 0 a0_0 a0_1 a0_2 a0_3 l0_4) = some r := h
 clear h
 have H' := D H
 clear H
 go_enter Try.func33, Try.ntmps33
 go_wp2_with (first|((with_reducible refine gate_dst (N:=2) rfl ?_);refine bx_ (N:=2) (cs:=#[I L a0_0,I L a0_1,I L a0_2,I L a0_3,Y A0_4 l0_4.length c0_4]) (t:=34) ?_;intro gb154 hg w3 hbox hb;have n_:=an_ (below_step (pB_ HB.out) hb)<|an_ (hbox)<|an_ (bg_ hg (pB_ HB.out):w.heap.size≤gb154)<|D (bg_ hg (pB_ HB.out):w.heap.size≤gb154);clear HB;obtain ⟨HB,BK154,GW154,GE154⟩:=n_;clear hb hbox hg))
 go_loopg [5] k (fun kq v5 w'=>∃ (x5_1:Int),v5=I L x5_1∧Aside0 (spec_l18At.l0 kq a1 x5_1 a0_0 a0_1 a0_2 a0_3 l0_4=some r)∧Aside0 (kq≤k)∧Aside0 (w'.heap[gb154]?=some (.cells #[I L a0_0,I L a0_1,I L a0_2,I L a0_3,(Y A0_4 l0_4.length c0_4)] 34 (0,0)))∧Aside0 (Below w.heap.size w w'))
 case atStart => exact ⟨(0), Z49, H', ⟨Nat.le_refl _⟩, ⟨pk_ BK154.out⟩, ⟨pB_ HB.out⟩⟩
 case round =>
  clear H'
  (try clear p2);(try clear c3)
  obtain ⟨x5_1, rfl, HA, HK1, BK154, HB⟩ := hrel
  cases gk with
  | zero => exact absurd HA.out (by simp [spec_l18At.l0])
  | succ k1 =>
   have H := HA.out; clear HA; simp only [spec_l18At.l0] at H
   by_cases c4 : x5_1 < (l0_4.length : Int)
   ·rw [if_pos c4] at H
    have c4b0 : decide (x5_1 < (l0_4.length : Int)) = true := decide_eq_true c4; clear c4
    by_cases c5 : 0 ≤ x5_1
    ·rw [if_pos c5] at H
     have c5b0:decide (0≤x5_1)=true:=decide_eq_true c5;clear c5;have HU6:=D H;clear H;have hcz7_0:=cells5 BK154.out;have p155:0≤(x5_1:Int):=od_ Z48;have q155:x5_1 < (l0_4.length:Int):=od_ Z48;obtain ⟨ad155,e155,hx155_0,hx155_1,hx155_2,hx155_3,hx155_4,hx155_5⟩:=at_T67 HR0_4.out x5_1 p155 q155;cases e155;replace hx155_0:=rc_ HB.out hx155_0;replace hx155_1:=rc_ HB.out hx155_1;replace hx155_2:=rc_ HB.out hx155_2;replace hx155_3:=rc_ HB.out hx155_3;replace hx155_4:=rc_ HB.out hx155_4;replace hx155_5:=rc_ HB.out hx155_5;replace p155:=eq_true p155;replace q155:=eq_true q155
     go_upto_if 20 with (fail)
     have H := HU6.out; clear HU6
     by_cases c8 : ((rd_T67 l0_4 x5_1).f0) = a1
     ·rw [if_pos c8] at H
      have c8b0:(((rd_T67 l0_4 x5_1).f0) == a1)=true:=beq_iff_eq.mpr c8;have c8b1:(((rd_T67 l0_4 x5_1).f0) != a1)=false:=bne_eq_false_iff_eq.mpr c8;clear c8;refine rw_ c8b0 ?_;obtain rfl:=Option.some.inj H
      go_wp2
      go_ret; exact ⟨er_, pB_ HB.out⟩
     ·rw [if_neg c8] at H
      have c8b0:(((rd_T67 l0_4 x5_1).f0) == a1)=false:=beq_eq_false_iff_ne.mpr c8;have c8b1:(((rd_T67 l0_4 x5_1).f0) != a1)=true:=bne_iff_ne.mpr c8;refine rw_ c8b0 ?_;have H':=D H;clear H
      go_wp2
      go_roundg k1
      case measure => have := HK1.out; omega
      case rel => exact ⟨(wrap64 (x5_1 + 1)), Z49, H', ⟨by have := HK1.out; omega⟩, ⟨pk_ BK154.out⟩, ⟨pB_ HB.out⟩⟩
    ·rw [if_neg c5] at H
     exact absurd H (by simp)
   ·rw [if_neg c4] at H
    have c4b0:decide (x5_1 < (l0_4.length:Int))=false:=decide_eq_false c4;clear c4;obtain rfl:=Option.some.inj H;have hcz9_0:=cells5 BK154.out
    go_wp2
    go_ret; exact ⟨er_, pB_ HB.out⟩

end Go.Proofs.Ytjfknflhajeglaa.PFnExactTreeFlow
