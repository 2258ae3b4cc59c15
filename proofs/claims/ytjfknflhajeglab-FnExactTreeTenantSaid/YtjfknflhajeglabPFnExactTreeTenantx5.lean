-- by a program of this session's, over the kit's words
import Derived.Test.YtjfknflhajeglabPZFnExactTreeTenant
import Derived.Test.YtjfknflhajeglabPFnExactTreeTenantx0
namespace Go.Proofs.Ytjfknflhajeglab.PFnExactTreeTenant
open Go.RowKit Go.Proofs.YtjfknflhajeglabW.PrintWords Go.Proofs.YtjfknflhajeglabW.PrintLast Go.Proofs.YtjfknflhajeglabW.PrintMore Go.Proofs.YtjfknflhajeglabV Go.Proofs.Ytjfknflhajeglab.ZFnExactTreeTenant
open Go.Value renaming int → I, slice → Y
open Go.IntKind renaming i64 → L
open Aside0 renaming mk → D
open Option renaming bind_eq_some_iff → bs_
attribute [local go_sem] max2_int min2_int max_two min_two max_three min_three max_four min_four   -- for this text's walks alone
set_option linter.unusedVariables false
set_option linter.unusedSimpArgs false

/-! ### spec_l18At: function 37 -/
def spec_l18At.l0 : Nat → Int → Int → Int → Int → Int → Int → List (S51) → Option (Int)
 | 0, _, _, _, _, _, _, _ => none
 | k + 1,x1,x5,x153000,x153001,x153002,x153003,x153004=>if x5 < (x153004.length:Int) then (if 0≤x5 then (if ((rd_T51 x153004 x5).f0)=x1 then (some x5) else (spec_l18At.l0 k x1 (wrap64 (x5 + 1)) x153000 x153001 x153002 x153003 x153004)) else (none)) else (some (-1))
def spec_l18At.f (k : Nat) (a0_0 a0_1 a0_2 a0_3 : Int) (l0_4 : List (S51)) (a1 : Int) : Option (Int) := spec_l18At.l0 k a1 0 a0_0 a0_1 a0_2 a0_3 l0_4
set_option maxHeartbeats 8000000 in
set_option maxRecDepth 100000 in
theorem spec_l18At.calls (k : Nat) (a0_0 a0_1 a0_2 a0_3 : Int) (A0_4 : Option Addr) (c0_4 : Nat) (l0_4 : List (S51)) (a1 r : Int) (w : World) (hr0_4 : Kd.C k51 w A0_4 l0_4.length l0_4) (hc0_4 : l0_4.length ≤ c0_4) (h : spec_l18At.f k a0_0 a0_1 a0_2 a0_3 l0_4 a1 = some r) :
  Calls Try.prog 37 #[.agg #[I L a0_0,I L a0_1,I L a0_2,I L a0_3,Y A0_4 l0_4.length c0_4],I L a1] w fun e w'=>e=.returned (I L r)∧Below w.heap.size w w':=by
 have hu34 := Try.underlying34
 have HR0_4 := D hr0_4
 have HC0_4 := D hc0_4
 clear hr0_4 hc0_4
 have HB := D (Below.refl w.heap.size w)
 have H : (spec_l18At.l0 k a1 0 a0_0 a0_1 a0_2 a0_3 l0_4) = some r := h
 clear h
 have H' := D H
 clear H
 go_enter Try.func37, Try.ntmps37
 go_wp2_with (first|((with_reducible refine gate_dst (N:=2) rfl ?_);refine bx_ (N:=2) (cs:=#[I L a0_0,I L a0_1,I L a0_2,I L a0_3,Y A0_4 l0_4.length c0_4]) (t:=34) ?_;intro gb152 hg w3 hbox hb;have n_:=an_ (below_step (pB_ HB.out) hb)<|an_ (hbox)<|an_ (bg_ hg (pB_ HB.out):w.heap.size≤gb152)<|D (bg_ hg (pB_ HB.out):w.heap.size≤gb152);clear HB;obtain ⟨HB,BK152,GW152,GE152⟩:=n_;clear hb hbox hg))
 go_loopg [5] k (fun kq v5 w'=>∃ (x5_1:Int),v5=I L x5_1∧Aside0 (spec_l18At.l0 kq a1 x5_1 a0_0 a0_1 a0_2 a0_3 l0_4=some r)∧Aside0 (kq≤k)∧Aside0 (w'.heap[gb152]?=some (.cells #[I L a0_0,I L a0_1,I L a0_2,I L a0_3,(Y A0_4 l0_4.length c0_4)] 34 (0,0)))∧Aside0 (Below w.heap.size w w'))
 case atStart => exact ⟨(0), Z53, H', ⟨Nat.le_refl _⟩, ⟨pk_ BK152.out⟩, ⟨pB_ HB.out⟩⟩
 case round =>
  clear H'
  (try clear p2);(try clear c3)
  obtain ⟨x5_1, rfl, HA, HK1, BK152, HB⟩ := hrel
  cases gk with
  | zero => exact absurd HA.out (by simp [spec_l18At.l0])
  | succ k1 =>
   have H := HA.out; clear HA; simp only [spec_l18At.l0] at H
   by_cases c4 : x5_1 < (l0_4.length : Int)
   ·rw [if_pos c4] at H
    have c4b0 : decide (x5_1 < (l0_4.length : Int)) = true := decide_eq_true c4; clear c4
    by_cases c5 : 0 ≤ x5_1
    ·rw [if_pos c5] at H
     have c5b0:decide (0≤x5_1)=true:=decide_eq_true c5;clear c5;have HU6:=D H;clear H;have hcz7_0:=cells5 BK152.out;have p153:0≤(x5_1:Int):=od_ Z52;have q153:x5_1 < (l0_4.length:Int):=od_ Z52;obtain ⟨ad153,e153,hx153_0,hx153_1,hx153_2,hx153_3,hx153_4,hx153_5⟩:=at_T51 HR0_4.out x5_1 p153 q153;cases e153;replace hx153_0:=rc_ HB.out hx153_0;replace hx153_1:=rc_ HB.out hx153_1;replace hx153_2:=rc_ HB.out hx153_2;replace hx153_3:=rc_ HB.out hx153_3;replace hx153_4:=rc_ HB.out hx153_4;replace hx153_5:=rc_ HB.out hx153_5;replace p153:=eq_true p153;replace q153:=eq_true q153
     go_upto_if 20 with (fail)
     have H := HU6.out; clear HU6
     by_cases c8 : ((rd_T51 l0_4 x5_1).f0) = a1
     ·rw [if_pos c8] at H
      have c8b0:(((rd_T51 l0_4 x5_1).f0) == a1)=true:=beq_iff_eq.mpr c8;have c8b1:(((rd_T51 l0_4 x5_1).f0) != a1)=false:=bne_eq_false_iff_eq.mpr c8;clear c8;refine rw_ c8b0 ?_;obtain rfl:=Option.some.inj H
      go_wp2
      go_ret; exact ⟨er_, pB_ HB.out⟩
     ·rw [if_neg c8] at H
      have c8b0:(((rd_T51 l0_4 x5_1).f0) == a1)=false:=beq_eq_false_iff_ne.mpr c8;have c8b1:(((rd_T51 l0_4 x5_1).f0) != a1)=true:=bne_iff_ne.mpr c8;refine rw_ c8b0 ?_;have H':=D H;clear H
      go_wp2
      go_roundg k1
      case measure => have := HK1.out; omega
      case rel => exact ⟨(wrap64 (x5_1 + 1)), Z53, H', ⟨by have := HK1.out; omega⟩, ⟨pk_ BK152.out⟩, ⟨pB_ HB.out⟩⟩
    ·rw [if_neg c5] at H
     exact absurd H (by simp)
   ·rw [if_neg c4] at H
    have c4b0:decide (x5_1 < (l0_4.length:Int))=false:=decide_eq_false c4;clear c4;obtain rfl:=Option.some.inj H;have hcz9_0:=cells5 BK152.out
    go_wp2
    go_ret; exact ⟨er_, pB_ HB.out⟩

end Go.Proofs.Ytjfknflhajeglab.PFnExactTreeTenant
