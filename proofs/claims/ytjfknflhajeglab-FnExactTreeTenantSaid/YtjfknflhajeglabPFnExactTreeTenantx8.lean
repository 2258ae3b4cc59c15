-- by a program of this session's, over the kit's words
import Derived.Test.YtjfknflhajeglabPZFnExactTreeTenant
import Derived.Test.YtjfknflhajeglabPFnExactTreeTenantx0
import Derived.Test.YtjfknflhajeglabPFnExactTreeTenantx1
namespace Go.Proofs.Ytjfknflhajeglab.PFnExactTreeTenant
open Go.RowKit Go.Proofs.YtjfknflhajeglabW.PrintWords Go.Proofs.YtjfknflhajeglabW.PrintLast Go.Proofs.YtjfknflhajeglabW.PrintMore Go.Proofs.YtjfknflhajeglabV Go.Proofs.Ytjfknflhajeglab.ZFnExactTreeTenant
open Go.Value renaming int → I, slice → Y
open Go.IntKind renaming i64 → L
open Aside0 renaming mk → D
open Option renaming bind_eq_some_iff → bs_
attribute [local go_sem] max2_int min2_int max_two min_two max_three min_three max_four min_four   -- for this text's walks alone
set_option linter.unusedVariables false
set_option linter.unusedSimpArgs false

/-! ### spec_FairNew: function 16 -/
def spec_FairNew.f (a0 : Int) : Option (Int × Int × Int × Int × (List (S51))) := (spec_l13Delta.f a0).bind fun t232 => (if t232 = true then (some (a0, 0, 0, 0, ([] : List (S51)))) else (some (0, 0, 0, 0, ([] : List (S51)))))
set_option maxHeartbeats 8000000 in
set_option maxRecDepth 100000 in
theorem spec_FairNew.calls (a0 r1 r2 r3 r4 : Int) (r5 : List (S51)) (w : World) (h : spec_FairNew.f a0 = some (r1, r2, r3, r4, r5)) :
  Calls Try.prog 16 #[I L a0] w fun e w'=>∃ v4_:Value,e=.returned (.agg #[I L r1,I L r2,I L r3,I L r4,v4_])∧Kd.R k51 51 w' w.heap.size (fun _=>True) v4_ r5∧Below w.heap.size w w':=by
 have hu34 := Try.underlying34
 have HB := D (Below.refl w.heap.size w)
 have H : ((spec_l13Delta.f a0).bind fun t232 => (if t232 = true then (some (a0, 0, 0, 0, ([] : List (S51)))) else (some (0, 0, 0, 0, ([] : List (S51)))))) = some (r1, r2, r3, r4, r5) := h
 clear h
 obtain ⟨t232, A20, H⟩ := bs_.mp H
 (try dsimp only at H)
 have A2 := D A20
 clear A20
 have HU3 := D H
 clear H
 go_enter Try.func16, Try.ntmps16
 go_upto_if 5 with (first|((with_reducible refine gate_dst (N:=2) rfl ?_);refine bx_ (N:=2) (cs:=#[I L 0,I L 0,I L 0,I L 0,Y none 0 0]) (t:=34) ?_;intro gb231 hg w4 hbox hb;have n_:=an_ (below_step (pB_ HB.out) hb)<|an_ (hbox)<|an_ (bg_ hg (pB_ HB.out):w.heap.size≤gb231)<|D (bg_ hg (pB_ HB.out):w.heap.size≤gb231);clear HB;obtain ⟨HB,BK231,GW231,GE231⟩:=n_;clear hb hbox hg)|((with_reducible refine gate_callee (f:=39) rfl ?_);refine goesL_ (some 4) rfl rfl Try.func39 (by kernel_rfl) rfl #[I L a0] rfl Z21 ?_;(with_reducible refine (spec_l13Delta.calls a0 t232 _ A2.out).mono ?_);rintro e w' ⟨rfl,⟨nd,rfl⟩⟩;refine ⟨_,rfl,?_⟩))
 have H := HU3.out
 clear HU3
 by_cases c5 : t232 = true
 ·subst c5
  rw [if_pos rfl] at H;simp only [Option.some.injEq,Prod.mk.injEq] at H;obtain ⟨rfl,rfl,rfl,rfl,rfl⟩:=H;have hcz6_0:=cells5 BK231.out
  go_wp2
  refine bodyPost_ret (results_cell_row rfl _ _ gb231 34 #[I L a0,I L 0,I L 0,I L 0,Y none 0 0] (0,0) _ rfl (by exact pP_ BK231.out) Try.underlying34 rfl (by kernel_rfl)) rfl ?_;exact ⟨_,er_,by first|exact Kd.R_nil _ _ _ _ _|exact Kd.N_nil _ _ _ _ _|exact Kd.V_nil _ _ _ _ _|exact Kd.Q_nil _ _ _ _ _|exact Kd.S_nil _ _ _ _ _,pB_ HB.out⟩
 ·replace c5 := Bool.eq_false_iff.mpr c5
  subst c5;rw [if_neg (show ¬ (false=true) by decide)] at H;simp only [Option.some.injEq,Prod.mk.injEq] at H;obtain ⟨rfl,rfl,rfl,rfl,rfl⟩:=H;have hcz7_0:=cells5 BK231.out
  go_wp2
  refine bodyPost_ret (results_cell_row rfl _ _ gb231 34 #[I L 0,I L 0,I L 0,I L 0,Y none 0 0] (0,0) _ rfl (by exact pP_ BK231.out) Try.underlying34 rfl (by kernel_rfl)) rfl ?_;exact ⟨_,er_,by first|exact Kd.R_nil _ _ _ _ _|exact Kd.N_nil _ _ _ _ _|exact Kd.V_nil _ _ _ _ _|exact Kd.Q_nil _ _ _ _ _|exact Kd.S_nil _ _ _ _ _,pB_ HB.out⟩

/-! ### spec_l20At: function 17 -/
def spec_l20At.l0 : Nat → Int → Int → Int → Int → Int → Int → List (S51) → List (S54) → Option (Int)
 | 0, _, _, _, _, _, _, _, _ => none
 | k + 1,x1,x5,x234000,x234001,x234002,x234003,x234004,x234005=>if x5 < (x234005.length:Int) then (if 0≤x5 then (if ((rd_T54 x234005 x5).f0)=x1 then (some x5) else (spec_l20At.l0 k x1 (wrap64 (x5 + 1)) x234000 x234001 x234002 x234003 x234004 x234005)) else (none)) else (some (-1))
def spec_l20At.f (k : Nat) (a0_0 a0_1 a0_2 a0_3 : Int) (l0_4 : List (S51)) (l0_5 : List (S54)) (a1 : Int) : Option (Int) := spec_l20At.l0 k a1 0 a0_0 a0_1 a0_2 a0_3 l0_4 l0_5
set_option maxHeartbeats 8000000 in
set_option maxRecDepth 100000 in
theorem spec_l20At.calls (k : Nat) (a0_0 a0_1 a0_2 a0_3 : Int) (A0_4 : Option Addr) (c0_4 : Nat) (l0_4 : List (S51)) (A0_5 : Option Addr) (c0_5 : Nat) (l0_5 : List (S54)) (a1 r : Int) (w : World) (hr0_4 : Kd.C k51 w A0_4 l0_4.length l0_4) (hc0_4 : l0_4.length ≤ c0_4) (hr0_5 : Kd.C k54 w A0_5 l0_5.length l0_5) (hc0_5 : l0_5.length ≤ c0_5) (h : spec_l20At.f k a0_0 a0_1 a0_2 a0_3 l0_4 l0_5 a1 = some r) :
  Calls Try.prog 17 #[.agg #[I L a0_0,I L a0_1,I L a0_2,I L a0_3,Y A0_4 l0_4.length c0_4,Y A0_5 l0_5.length c0_5],I L a1] w fun e w'=>e=.returned (I L r)∧Below w.heap.size w w':=by
 have hu37 := Try.underlying37
 have HR0_4 := D hr0_4
 have HC0_4 := D hc0_4
 clear hr0_4 hc0_4
 have HR0_5 := D hr0_5
 have HC0_5 := D hc0_5
 clear hr0_5 hc0_5
 have HB := D (Below.refl w.heap.size w)
 have H : (spec_l20At.l0 k a1 0 a0_0 a0_1 a0_2 a0_3 l0_4 l0_5) = some r := h
 clear h
 have H' := D H
 clear H
 go_enter Try.func17, Try.ntmps17
 go_wp2_with (first|((with_reducible refine gate_dst (N:=2) rfl ?_);refine bx_ (N:=2) (cs:=#[I L a0_0,I L a0_1,I L a0_2,I L a0_3,Y A0_4 l0_4.length c0_4,Y A0_5 l0_5.length c0_5]) (t:=37) ?_;intro gb233 hg w3 hbox hb;have n_:=an_ (below_step (pB_ HB.out) hb)<|an_ (hbox)<|an_ (bg_ hg (pB_ HB.out):w.heap.size≤gb233)<|D (bg_ hg (pB_ HB.out):w.heap.size≤gb233);clear HB;obtain ⟨HB,BK233,GW233,GE233⟩:=n_;clear hb hbox hg))
 go_loopg [5] k (fun kq v5 w'=>∃ (x5_1:Int),v5=I L x5_1∧Aside0 (spec_l20At.l0 kq a1 x5_1 a0_0 a0_1 a0_2 a0_3 l0_4 l0_5=some r)∧Aside0 (kq≤k)∧Aside0 (w'.heap[gb233]?=some (.cells #[I L a0_0,I L a0_1,I L a0_2,I L a0_3,(Y A0_4 l0_4.length c0_4),(Y A0_5 l0_5.length c0_5)] 37 (0,0)))∧Aside0 (Below w.heap.size w w'))
 case atStart => exact ⟨(0), Z53, H', ⟨Nat.le_refl _⟩, ⟨pk_ BK233.out⟩, ⟨pB_ HB.out⟩⟩
 case round =>
  clear H'
  (try clear c1);(try clear p2)
  obtain ⟨x5_1, rfl, HA, HK1, BK233, HB⟩ := hrel
  cases gk with
  | zero => exact absurd HA.out (by simp [spec_l20At.l0])
  | succ k1 =>
   have H := HA.out; clear HA; simp only [spec_l20At.l0] at H
   by_cases c4 : x5_1 < (l0_5.length : Int)
   ·rw [if_pos c4] at H
    have c4b0 : decide (x5_1 < (l0_5.length : Int)) = true := decide_eq_true c4; clear c4
    by_cases c5 : 0 ≤ x5_1
    ·rw [if_pos c5] at H
     have c5b0:decide (0≤x5_1)=true:=decide_eq_true c5;clear c5;have HU6:=D H;clear H;have hcz7_0:=cells6 BK233.out;have p234:0≤(x5_1:Int):=od_ Z52;have q234:x5_1 < (l0_5.length:Int):=od_ Z52;obtain ⟨ad234,A234_5,c234_5,e234,hx234_0,hx234_1,hx234_2,hx234_3,hx234_4,hx234_5,hl234_5,hi234_5⟩:=at_T54 HR0_5.out x5_1 p234 q234;cases e234;replace hx234_0:=rc_ HB.out hx234_0;replace hx234_1:=rc_ HB.out hx234_1;replace hx234_2:=rc_ HB.out hx234_2;replace hx234_3:=rc_ HB.out hx234_3;replace hx234_4:=rc_ HB.out hx234_4;replace hx234_5:=rc_ HB.out hx234_5;have HR234_5:=D hi234_5;have HC234_5:=D hl234_5;clear hi234_5 hl234_5;replace p234:=eq_true p234;replace q234:=eq_true q234
     go_upto_if 20 with (fail)
     have H := HU6.out; clear HU6
     by_cases c8 : ((rd_T54 l0_5 x5_1).f0) = a1
     ·rw [if_pos c8] at H
      have c8b0:(((rd_T54 l0_5 x5_1).f0) == a1)=true:=beq_iff_eq.mpr c8;have c8b1:(((rd_T54 l0_5 x5_1).f0) != a1)=false:=bne_eq_false_iff_eq.mpr c8;clear c8;refine rw_ c8b0 ?_;obtain rfl:=Option.some.inj H
      go_wp2
      go_ret; exact ⟨er_, pB_ HB.out⟩
     ·rw [if_neg c8] at H
      have c8b0:(((rd_T54 l0_5 x5_1).f0) == a1)=false:=beq_eq_false_iff_ne.mpr c8;have c8b1:(((rd_T54 l0_5 x5_1).f0) != a1)=true:=bne_iff_ne.mpr c8;refine rw_ c8b0 ?_;have H':=D H;clear H
      go_wp2
      go_roundg k1
      case measure => have := HK1.out; omega
      case rel => exact ⟨(wrap64 (x5_1 + 1)), Z53, H', ⟨by have := HK1.out; omega⟩, ⟨pk_ BK233.out⟩, ⟨pB_ HB.out⟩⟩
    ·rw [if_neg c5] at H
     exact absurd H (by simp)
   ·rw [if_neg c4] at H
    have c4b0:decide (x5_1 < (l0_5.length:Int))=false:=decide_eq_false c4;clear c4;obtain rfl:=Option.some.inj H;have hcz9_0:=cells6 BK233.out
    go_wp2
    go_ret; exact ⟨er_, pB_ HB.out⟩

end Go.Proofs.Ytjfknflhajeglab.PFnExactTreeTenant
