-- by a program of this session's, over the kit's words
import Derived.Test.YtoacddcbiceeeabPZFnCostAdds
import Derived.Test.YtoacddcbiceeeabPFnCostAddsx0
import Derived.Test.YtoacddcbiceeeabPFnCostAddsx13
namespace Go.Proofs.Ytoacddcbiceeeab.PFnCostAdds
open Go.RowKit Go.Proofs.YtoacddcbiceeeabW.PrintWords Go.Proofs.YtoacddcbiceeeabW.PrintLast Go.Proofs.YtoacddcbiceeeabW.PrintMore Go.Proofs.YtoacddcbiceeeabV Go.Proofs.Ytoacddcbiceeeab.ZFnCostAdds
open Go.Value renaming int → I, slice → Y
open Go.IntKind renaming i64 → L
open Aside0 renaming mk → D
open Option renaming bind_eq_some_iff → bs_
attribute [local go_sem] max2_int min2_int max_two min_two max_three min_three max_four min_four   -- for this text's walks alone
set_option linter.unusedVariables false
set_option linter.unusedSimpArgs false

/-! ### spec_ChainOk: function 15 -/
def spec_ChainOk.l0 : Nat → List (S36) → Int → Option (Bool)
 | 0, _, _ => none
 | k + 1,x0,x3=>if x3 < (x0.length:Int) then (if 0≤x3 then ((spec_ModuleOk.f k ((rd_T36 x0 x3).f0) ((rd_T36 x0 x3).f1.f0.f0) ((rd_T36 x0 x3).f1.f0.f1) ((rd_T36 x0 x3).f1.f0.f2) ((rd_T36 x0 x3).f1.f0.f3) ((rd_T36 x0 x3).f1.f0.f4) ((rd_T36 x0 x3).f1.f1) ((rd_T36 x0 x3).f2.f0.f0) ((rd_T36 x0 x3).f2.f0.f1) ((rd_T36 x0 x3).f2.f0.f2) ((rd_T36 x0 x3).f2.f0.f3) ((rd_T36 x0 x3).f2.f0.f4) ((rd_T36 x0 x3).f2.f1) ((rd_T36 x0 x3).f3) ((rd_T36 x0 x3).f4) ((rd_T36 x0 x3).f5) ((rd_T36 x0 x3).f6)).bind fun t532=>(if t532=true then (spec_ChainOk.l0 k x0 (wrap64 (x3 + 1))) else (some false))) else (none)) else (some true)
def spec_ChainOk.f (k : Nat) (l0 : List (S36)) : Option (Bool) := if (l0.length : Int) > 8 then (some false) else (spec_ChainOk.l0 k l0 0)
set_option maxHeartbeats 8000000 in
set_option maxRecDepth 100000 in
theorem spec_ChainOk.calls (k : Nat) (A0 : Option Addr) (c0 : Nat) (l0 : List (S36)) (r : Bool) (w : World) (hr0 : Kd.C k36 w A0 l0.length l0) (hc0 : l0.length ≤ c0) (h : spec_ChainOk.f k l0 = some r) :
  Calls Try.prog 15 #[Y A0 l0.length c0] w fun e w' => e = .returned (.bool r) ∧ Below w.heap.size w w' := by
 have hu36 := Try.underlying36
 have HR0 := D hr0
 have HC0 := D hc0
 clear hr0 hc0
 have HB := D (Below.refl w.heap.size w)
 have H : (if (l0.length : Int) > 8 then (some false) else (spec_ChainOk.l0 k l0 0)) = some r := h
 clear h
 by_cases c2 : (l0.length : Int) > 8
 ·rw [if_pos c2] at H
  have c2b0:decide (8 < (l0.length:Int))=true:=decide_eq_true c2;have c2b1:decide (8 < l0.length)=true:=decide_eq_true (by omega);clear c2;obtain rfl:=Option.some.inj H;go_enter Try.func15,Try.ntmps15
  go_wp2
  go_ret; exact ⟨er_, pB_ HB.out⟩
 ·rw [if_neg c2] at H
  have c2b0:decide (8 < (l0.length:Int))=false:=decide_eq_false c2;have c2b1:decide (8 < l0.length)=false:=decide_eq_false (by omega);clear c2;have H':=D H;clear H;go_enter Try.func15,Try.ntmps15
  go_wp2
  go_loopg [3] k (fun kq v3 w' => ∃ (x3_1 : Int), v3 = I L x3_1 ∧ Aside0 (spec_ChainOk.l0 kq l0 x3_1 = some r) ∧ Aside0 (kq ≤ k) ∧ Aside0 (Below w.heap.size w w'))
  case atStart => exact ⟨(0), Z22, H', ⟨Nat.le_refl _⟩, ⟨pB_ HB.out⟩⟩
  case round =>
   clear H'
   (try clear c1);(try clear c2);(try clear c2b0);(try clear c2b1);(try clear p2)
   obtain ⟨x3_1, rfl, HA, HK1, HB⟩ := hrel
   cases gk with
   | zero => exact absurd HA.out (by simp [spec_ChainOk.l0])
   | succ k1 =>
    have H := HA.out; clear HA; simp only [spec_ChainOk.l0] at H
    by_cases c3 : x3_1 < (l0.length : Int)
    ·rw [if_pos c3] at H
     have c3b0 : decide (x3_1 < (l0.length : Int)) = true := decide_eq_true c3; clear c3
     by_cases c4 : 0 ≤ x3_1
     ·rw [if_pos c4] at H
      have c4b0:decide (0≤x3_1)=true:=decide_eq_true c4;clear c4;obtain ⟨t532,A50,H⟩:=bs_.mp H;(try dsimp only at H);have A5:=D A50;clear A50;have HU6:=D H;clear H;have p531:0≤(x3_1:Int):=od_ Z21;have q531:x3_1 < (l0.length:Int):=od_ Z21;obtain ⟨ad531,e531,hx531_0,hx531_1,hx531_2,hx531_3,hx531_4,hx531_5,hx531_6,hx531_7,hx531_8,hx531_9,hx531_10,hx531_11,hx531_12,hx531_13,hx531_14,hx531_15,hx531_16⟩:=at_T36 HR0.out x3_1 p531 q531;cases e531;replace hx531_0:=rc_ HB.out hx531_0;replace hx531_1:=rc_ HB.out hx531_1;replace hx531_2:=rc_ HB.out hx531_2;replace hx531_3:=rc_ HB.out hx531_3;replace hx531_4:=rc_ HB.out hx531_4;replace hx531_5:=rc_ HB.out hx531_5;replace hx531_6:=rc_ HB.out hx531_6;replace hx531_7:=rc_ HB.out hx531_7;replace hx531_8:=rc_ HB.out hx531_8;replace hx531_9:=rc_ HB.out hx531_9;replace hx531_10:=rc_ HB.out hx531_10;replace hx531_11:=rc_ HB.out hx531_11;replace hx531_12:=rc_ HB.out hx531_12;replace hx531_13:=rc_ HB.out hx531_13;replace hx531_14:=rc_ HB.out hx531_14;replace hx531_15:=rc_ HB.out hx531_15;replace hx531_16:=rc_ HB.out hx531_16;replace p531:=eq_true p531;replace q531:=eq_true q531
      go_upto_if 18 with (first|((with_reducible refine gate_callee (f:=29) rfl ?_);refine goesL_ (some 17) rfl rfl Try.func29 (by kernel_rfl) rfl #[.agg #[I L ((rd_T36 l0 x3_1).f0),I L ((rd_T36 l0 x3_1).f1.f0.f0),I L ((rd_T36 l0 x3_1).f1.f0.f1),I L ((rd_T36 l0 x3_1).f1.f0.f2),I L ((rd_T36 l0 x3_1).f1.f0.f3),I L ((rd_T36 l0 x3_1).f1.f0.f4),I L ((rd_T36 l0 x3_1).f1.f1),I L ((rd_T36 l0 x3_1).f2.f0.f0),I L ((rd_T36 l0 x3_1).f2.f0.f1),I L ((rd_T36 l0 x3_1).f2.f0.f2),I L ((rd_T36 l0 x3_1).f2.f0.f3),I L ((rd_T36 l0 x3_1).f2.f0.f4),I L ((rd_T36 l0 x3_1).f2.f1),I L ((rd_T36 l0 x3_1).f3),I L ((rd_T36 l0 x3_1).f4),I L ((rd_T36 l0 x3_1).f5),I L ((rd_T36 l0 x3_1).f6)]] rfl Z15 ?_;(with_reducible refine (spec_ModuleOk.calls k1 ((rd_T36 l0 x3_1).f0) ((rd_T36 l0 x3_1).f1.f0.f0) ((rd_T36 l0 x3_1).f1.f0.f1) ((rd_T36 l0 x3_1).f1.f0.f2) ((rd_T36 l0 x3_1).f1.f0.f3) ((rd_T36 l0 x3_1).f1.f0.f4) ((rd_T36 l0 x3_1).f1.f1) ((rd_T36 l0 x3_1).f2.f0.f0) ((rd_T36 l0 x3_1).f2.f0.f1) ((rd_T36 l0 x3_1).f2.f0.f2) ((rd_T36 l0 x3_1).f2.f0.f3) ((rd_T36 l0 x3_1).f2.f0.f4) ((rd_T36 l0 x3_1).f2.f1) ((rd_T36 l0 x3_1).f3) ((rd_T36 l0 x3_1).f4) ((rd_T36 l0 x3_1).f5) ((rd_T36 l0 x3_1).f6) t532 _ A5.out).mono ?_);rintro e w7 ⟨rfl,hb⟩;refine ⟨_,rfl,?_⟩;have n0_:=D (below_step (pB_ HB.out) hb);clear HB;have HB:=n0_;clear n0_;(try clear hb)))
      have H := HU6.out; clear HU6
      by_cases c8 : t532 = true
      ·subst c8
       rw [if_pos rfl] at H; have H' := D H; clear H
       go_wp2
       go_roundg k1
       case measure => have := HK1.out; omega
       case rel => exact ⟨(wrap64 (x3_1 + 1)), Z22, H', ⟨by have := HK1.out; omega⟩, ⟨pB_ HB.out⟩⟩
      ·replace c8 := Bool.eq_false_iff.mpr c8
       subst c8; rw [if_neg (show ¬ (false = true) by decide)] at H; obtain rfl := Option.some.inj H
       go_wp2
       go_ret; exact ⟨er_, pB_ HB.out⟩
     ·rw [if_neg c4] at H
      exact absurd H (by simp)
    ·rw [if_neg c3] at H
     have c3b0 : decide (x3_1 < (l0.length : Int)) = false := decide_eq_false c3; clear c3; obtain rfl := Option.some.inj H
     go_wp2
     go_ret; exact ⟨er_, pB_ HB.out⟩

/-! ### spec_l13All: function 30 -/
def spec_l13All.f (a0_0 a0_1 a0_2 a1 a2 : Int) : Option (Bool) := if a0_0 ≥ a1 then (if a0_0 ≤ a2 then (if a0_1 ≥ a1 then (if a0_1 ≤ a2 then (if a0_2 ≥ a1 then (some (decide (a0_2 ≤ a2))) else (some false)) else (some false)) else (some false)) else (some false)) else (some false)
set_option maxHeartbeats 8000000 in
set_option maxRecDepth 100000 in
theorem spec_l13All.calls (a0_0 a0_1 a0_2 a1 a2 : Int) (r : Bool) (w : World) (h : spec_l13All.f a0_0 a0_1 a0_2 a1 a2 = some r) :
  Calls Try.prog 30 #[.agg #[I L a0_0, I L a0_1, I L a0_2], I L a1, I L a2] w fun e w' => e = .returned (.bool r) ∧ Below w.heap.size w w' := by
 have hu29 := Try.underlying29
 have HB := D (Below.refl w.heap.size w)
 have H:(if a0_0 ≥ a1 then (if a0_0≤a2 then (if a0_1 ≥ a1 then (if a0_1≤a2 then (if a0_2 ≥ a1 then (some (decide (a0_2≤a2))) else (some false)) else (some false)) else (some false)) else (some false)) else (some false))=some r:=h
 clear h
 by_cases c4 : a0_0 ≥ a1
 ·rw [if_pos c4] at H
  have c4b0 : decide (a1 ≤ a0_0) = true := decide_eq_true c4; clear c4
  by_cases c5 : a0_0 ≤ a2
  ·rw [if_pos c5] at H
   have c5b0 : decide (a0_0 ≤ a2) = true := decide_eq_true c5; clear c5
   by_cases c6 : a0_1 ≥ a1
   ·rw [if_pos c6] at H
    have c6b0 : decide (a1 ≤ a0_1) = true := decide_eq_true c6; clear c6
    by_cases c7 : a0_1 ≤ a2
    ·rw [if_pos c7] at H
     have c7b0 : decide (a0_1 ≤ a2) = true := decide_eq_true c7; clear c7
     by_cases c8 : a0_2 ≥ a1
     ·rw [if_pos c8] at H
      have c8b0 : decide (a1 ≤ a0_2) = true := decide_eq_true c8; clear c8; obtain rfl := Option.some.inj H; go_enter Try.func30, Try.ntmps30
      go_wp2_with (first|((with_reducible refine gate_dst (N:=3) rfl ?_);refine bx_ (N:=3) (cs:=#[I L a0_0,I L a0_1,I L a0_2]) (t:=29) ?_;intro gb533 hg w9 hbox hb;have n_:=an_ (below_step (pB_ HB.out) hb)<|an_ (hbox)<|an_ (bg_ hg (pB_ HB.out):w.heap.size≤gb533)<|D (bg_ hg (pB_ HB.out):w.heap.size≤gb533);clear HB;obtain ⟨HB,BK533,GW533,GE533⟩:=n_;clear hb hbox hg;have hcz10_0:=cells3 BK533.out))
      go_ret; exact ⟨er_, pB_ HB.out⟩
     ·rw [if_neg c8] at H
      have c8b0 : decide (a1 ≤ a0_2) = false := decide_eq_false c8; clear c8; obtain rfl := Option.some.inj H; go_enter Try.func30, Try.ntmps30
      go_wp2_with (first|((with_reducible refine gate_dst (N:=3) rfl ?_);refine bx_ (N:=3) (cs:=#[I L a0_0,I L a0_1,I L a0_2]) (t:=29) ?_;intro gb533 hg w11 hbox hb;have n_:=an_ (below_step (pB_ HB.out) hb)<|an_ (hbox)<|an_ (bg_ hg (pB_ HB.out):w.heap.size≤gb533)<|D (bg_ hg (pB_ HB.out):w.heap.size≤gb533);clear HB;obtain ⟨HB,BK533,GW533,GE533⟩:=n_;clear hb hbox hg;have hcz12_0:=cells3 BK533.out))
      go_ret; exact ⟨er_, pB_ HB.out⟩
    ·rw [if_neg c7] at H
     have c7b0 : decide (a0_1 ≤ a2) = false := decide_eq_false c7; clear c7; obtain rfl := Option.some.inj H; go_enter Try.func30, Try.ntmps30
     go_wp2_with (first|((with_reducible refine gate_dst (N:=3) rfl ?_);refine bx_ (N:=3) (cs:=#[I L a0_0,I L a0_1,I L a0_2]) (t:=29) ?_;intro gb533 hg w13 hbox hb;have n_:=an_ (below_step (pB_ HB.out) hb)<|an_ (hbox)<|an_ (bg_ hg (pB_ HB.out):w.heap.size≤gb533)<|D (bg_ hg (pB_ HB.out):w.heap.size≤gb533);clear HB;obtain ⟨HB,BK533,GW533,GE533⟩:=n_;clear hb hbox hg;have hcz14_0:=cells3 BK533.out))
     go_ret; exact ⟨er_, pB_ HB.out⟩
   ·rw [if_neg c6] at H
    have c6b0 : decide (a1 ≤ a0_1) = false := decide_eq_false c6; clear c6; obtain rfl := Option.some.inj H; go_enter Try.func30, Try.ntmps30
    go_wp2_with (first|((with_reducible refine gate_dst (N:=3) rfl ?_);refine bx_ (N:=3) (cs:=#[I L a0_0,I L a0_1,I L a0_2]) (t:=29) ?_;intro gb533 hg w15 hbox hb;have n_:=an_ (below_step (pB_ HB.out) hb)<|an_ (hbox)<|an_ (bg_ hg (pB_ HB.out):w.heap.size≤gb533)<|D (bg_ hg (pB_ HB.out):w.heap.size≤gb533);clear HB;obtain ⟨HB,BK533,GW533,GE533⟩:=n_;clear hb hbox hg;have hcz16_0:=cells3 BK533.out))
    go_ret; exact ⟨er_, pB_ HB.out⟩
  ·rw [if_neg c5] at H
   have c5b0 : decide (a0_0 ≤ a2) = false := decide_eq_false c5; clear c5; obtain rfl := Option.some.inj H; go_enter Try.func30, Try.ntmps30
   go_wp2_with (first|((with_reducible refine gate_dst (N:=3) rfl ?_);refine bx_ (N:=3) (cs:=#[I L a0_0,I L a0_1,I L a0_2]) (t:=29) ?_;intro gb533 hg w17 hbox hb;have n_:=an_ (below_step (pB_ HB.out) hb)<|an_ (hbox)<|an_ (bg_ hg (pB_ HB.out):w.heap.size≤gb533)<|D (bg_ hg (pB_ HB.out):w.heap.size≤gb533);clear HB;obtain ⟨HB,BK533,GW533,GE533⟩:=n_;clear hb hbox hg;have hcz18_0:=cells3 BK533.out))
   go_ret; exact ⟨er_, pB_ HB.out⟩
 ·rw [if_neg c4] at H
  have c4b0 : decide (a1 ≤ a0_0) = false := decide_eq_false c4; clear c4; obtain rfl := Option.some.inj H; go_enter Try.func30, Try.ntmps30
  go_wp2_with (first|((with_reducible refine gate_dst (N:=3) rfl ?_);refine bx_ (N:=3) (cs:=#[I L a0_0,I L a0_1,I L a0_2]) (t:=29) ?_;intro gb533 hg w19 hbox hb;have n_:=an_ (below_step (pB_ HB.out) hb)<|an_ (hbox)<|an_ (bg_ hg (pB_ HB.out):w.heap.size≤gb533)<|D (bg_ hg (pB_ HB.out):w.heap.size≤gb533);clear HB;obtain ⟨HB,BK533,GW533,GE533⟩:=n_;clear hb hbox hg;have hcz20_0:=cells3 BK533.out))
  go_ret; exact ⟨er_, pB_ HB.out⟩

/-! ### spec_ProfOk: function 16 -/
def spec_ProfOk.f (a0_0 a0_1 a0_2 a0_3 a0_4 a0_5 : Int) : Option (Bool) := (spec_l13All.f a0_0 a0_1 a0_2 0 1000).bind fun t535 => (if t535 = true then ((spec_l13All.f a0_3 a0_4 a0_5 0 1000).bind fun t536 => (some t536)) else (some false))
set_option maxHeartbeats 8000000 in
set_option maxRecDepth 100000 in
theorem spec_ProfOk.calls (a0_0 a0_1 a0_2 a0_3 a0_4 a0_5 : Int) (r : Bool) (w : World) (h : spec_ProfOk.f a0_0 a0_1 a0_2 a0_3 a0_4 a0_5 = some r) :
  Calls Try.prog 16 #[.agg #[I L a0_0, I L a0_1, I L a0_2, I L a0_3, I L a0_4, I L a0_5]] w fun e w' => e = .returned (.bool r) ∧ Below w.heap.size w w' := by
 have hu43 := Try.underlying43
 have hu29 := Try.underlying29
 have HB := D (Below.refl w.heap.size w)
 have H : ((spec_l13All.f a0_0 a0_1 a0_2 0 1000).bind fun t535 => (if t535 = true then ((spec_l13All.f a0_3 a0_4 a0_5 0 1000).bind fun t536 => (some t536)) else (some false))) = some r := h
 clear h
 obtain ⟨t535, A20, H⟩ := bs_.mp H
 (try dsimp only at H)
 have A2 := D A20
 clear A20
 by_cases c3 : t535 = true
 ·subst c3
  rw [if_pos rfl] at H;obtain ⟨t536,A40,H⟩:=bs_.mp H;(try dsimp only at H);have A4:=D A40;clear A40;obtain rfl:=Option.some.inj H;go_enter Try.func16,Try.ntmps16
  go_wp2_with (first|((with_reducible refine gate_dst (N:=1) rfl ?_);refine bx_ (N:=1) (cs:=#[I L a0_0,I L a0_1,I L a0_2,I L a0_3,I L a0_4,I L a0_5]) (t:=43) ?_;intro gb534 hg w5 hbox hb;have n_:=an_ (below_step (pB_ HB.out) hb)<|an_ (hbox)<|an_ (bg_ hg (pB_ HB.out):w.heap.size≤gb534)<|D (bg_ hg (pB_ HB.out):w.heap.size≤gb534);clear HB;obtain ⟨HB,BK534,GW534,GE534⟩:=n_;clear hb hbox hg;have hcz6_0:=cells6 BK534.out)|((with_reducible refine gate_callee (f:=30) rfl ?_);refine goesL_ (some 5) rfl rfl Try.func30 (by kernel_rfl) rfl #[.agg #[I L a0_0,I L a0_1,I L a0_2],I L 0,I L 1000] rfl Z15 ?_;(with_reducible refine (spec_l13All.calls a0_0 a0_1 a0_2 0 1000 true _ A2.out).mono ?_);rintro e w7 ⟨rfl,hb⟩;refine ⟨_,rfl,?_⟩;have n_:=an_ (blk_below (pk_ BK534.out) hb)<|D (below_step (pB_ HB.out) hb);clear BK534 HB;obtain ⟨BK534,HB⟩:=n_;(try clear hb);have hcz8_0:=cells6 BK534.out)|(go_at_call 30;(with_reducible refine (spec_l13All.calls a0_3 a0_4 a0_5 0 1000 t536 _ A4.out).mono ?_);rintro e w9 ⟨rfl,hb⟩;have n_:=an_ (blk_below (pk_ BK534.out) hb)<|D (below_step (pB_ HB.out) hb);clear BK534 HB;obtain ⟨BK534,HB⟩:=n_;(try clear hb)))
  go_ret; exact ⟨er_, pB_ HB.out⟩
 ·replace c3 := Bool.eq_false_iff.mpr c3
  subst c3; rw [if_neg (show ¬ (false = true) by decide)] at H; obtain rfl := Option.some.inj H; go_enter Try.func16, Try.ntmps16
  go_wp2_with (first|((with_reducible refine gate_dst (N:=1) rfl ?_);refine bx_ (N:=1) (cs:=#[I L a0_0,I L a0_1,I L a0_2,I L a0_3,I L a0_4,I L a0_5]) (t:=43) ?_;intro gb534 hg w10 hbox hb;have n_:=an_ (below_step (pB_ HB.out) hb)<|an_ (hbox)<|an_ (bg_ hg (pB_ HB.out):w.heap.size≤gb534)<|D (bg_ hg (pB_ HB.out):w.heap.size≤gb534);clear HB;obtain ⟨HB,BK534,GW534,GE534⟩:=n_;clear hb hbox hg;have hcz11_0:=cells6 BK534.out)|((with_reducible refine gate_callee (f:=30) rfl ?_);refine goesL_ (some 5) rfl rfl Try.func30 (by kernel_rfl) rfl #[.agg #[I L a0_0,I L a0_1,I L a0_2],I L 0,I L 1000] rfl Z15 ?_;(with_reducible refine (spec_l13All.calls a0_0 a0_1 a0_2 0 1000 false _ A2.out).mono ?_);rintro e w12 ⟨rfl,hb⟩;refine ⟨_,rfl,?_⟩;have n_:=an_ (blk_below (pk_ BK534.out) hb)<|D (below_step (pB_ HB.out) hb);clear BK534 HB;obtain ⟨BK534,HB⟩:=n_;(try clear hb)))
  go_ret; exact ⟨er_, pB_ HB.out⟩

/-! ### spec_ProfCost: function 17 -/
def spec_ProfCost.f (a0_0 a0_1 a0_2 a0_3 a0_4 a0_5 a1 : Int) : Option (Int × Int × Int) := (spec_ProfOk.f a0_0 a0_1 a0_2 a0_3 a0_4 a0_5).bind fun t539 => (if t539 = true then (if a1 < 0 then (some (0, 0, 0)) else (if a1 > 1600 then (some (0, 0, 0)) else (some (wrap64 (a0_0 + (wrap64 (Int.tdiv (wrap64 (a0_3 * a1)) 64))), wrap64 (a0_1 + (wrap64 (Int.tdiv (wrap64 (a0_4 * a1)) 64))), wrap64 (a0_2 + (wrap64 (Int.tdiv (wrap64 (a0_5 * a1)) 64))))))) else (some (0, 0, 0)))
set_option maxHeartbeats 8000000 in
set_option maxRecDepth 100000 in
theorem spec_ProfCost.calls (a0_0 a0_1 a0_2 a0_3 a0_4 a0_5 a1 r1 r2 r3 : Int) (w : World) (h : spec_ProfCost.f a0_0 a0_1 a0_2 a0_3 a0_4 a0_5 a1 = some (r1, r2, r3)) :
  Calls Try.prog 17 #[.agg #[I L a0_0,I L a0_1,I L a0_2,I L a0_3,I L a0_4,I L a0_5],I L a1] w fun e w'=>e=.returned (.agg #[I L r1,I L r2,I L r3])∧Below w.heap.size w w':=by
 have hu43 := Try.underlying43
 have hu29 := Try.underlying29
 have HB := D (Below.refl w.heap.size w)
 have H:((spec_ProfOk.f a0_0 a0_1 a0_2 a0_3 a0_4 a0_5).bind fun t539=>(if t539=true then (if a1 < 0 then (some (0,0,0)) else (if a1 > 1600 then (some (0,0,0)) else (some (wrap64 (a0_0 + (wrap64 (Int.tdiv (wrap64 (a0_3 * a1)) 64))),wrap64 (a0_1 + (wrap64 (Int.tdiv (wrap64 (a0_4 * a1)) 64))),wrap64 (a0_2 + (wrap64 (Int.tdiv (wrap64 (a0_5 * a1)) 64))))))) else (some (0,0,0))))=some (r1,r2,r3):=h
 clear h
 obtain ⟨t539, A30, H⟩ := bs_.mp H
 (try dsimp only at H)
 have A3 := D A30
 clear A30
 by_cases c4 : t539 = true
 ·subst c4
  rw [if_pos rfl] at H
  by_cases c5 : a1 < 0
  ·rw [if_pos c5] at H
   have c5b0 : decide (a1 < 0) = true := decide_eq_true c5; clear c5; simp only [Option.some.injEq, Prod.mk.injEq] at H; obtain ⟨rfl, rfl, rfl⟩ := H; go_enter Try.func17, Try.ntmps17
   go_wp2_with (first|((with_reducible refine gate_dst (N:=2) rfl ?_);refine bx_ (N:=2) (cs:=#[I L a0_0,I L a0_1,I L a0_2,I L a0_3,I L a0_4,I L a0_5]) (t:=43) ?_;intro gb537 hg w6 hbox hb;have n_:=an_ (below_step (pB_ HB.out) hb)<|an_ (hbox)<|an_ (bg_ hg (pB_ HB.out):w.heap.size≤gb537)<|D (bg_ hg (pB_ HB.out):w.heap.size≤gb537);clear HB;obtain ⟨HB,BK537,GW537,GE537⟩:=n_;clear hb hbox hg)|((with_reducible refine gate_dst (N:=4) rfl ?_);refine bx_ (N:=4) (cs:=#[I L 0,I L 0,I L 0]) (t:=29) ?_;intro gb538 hg w7 hbox hb;have n_:=an_ (blk_below (pk_ BK537.out) hb)<|an_ (below_step (pB_ HB.out) hb)<|an_ (hbox)<|an_ (bg_ hg (pB_ HB.out):w.heap.size≤gb538)<|an_ (bg_ hg (pB_ HB.out):w.heap.size≤gb538)<|an_ (nl_ hg (pk_ BK537.out):gb537≠gb538)<|D (by rw [hg];exact Nat.ne_of_gt (blk_lt (pk_ BK537.out)):gb538≠gb537);clear BK537 HB;obtain ⟨BK537,HB,BK538,GW538,GE538,NB537_538,NB538_537⟩:=n_;clear hb hbox hg;(try have:=NB537_538.out);(try have:=NB538_537.out);have hcz9_0:=cells6 BK537.out)|((with_reducible refine gate_callee (f:=16) rfl ?_);refine goesL_ (some 6) rfl rfl Try.func16 (by kernel_rfl) rfl #[.agg #[I L a0_0,I L a0_1,I L a0_2,I L a0_3,I L a0_4,I L a0_5]] rfl Z15 ?_;(with_reducible refine (spec_ProfOk.calls a0_0 a0_1 a0_2 a0_3 a0_4 a0_5 true _ A3.out).mono ?_);rintro e w10 ⟨rfl,hb⟩;refine ⟨_,rfl,?_⟩;have n_:=an_ (blk_below (pk_ BK537.out) hb)<|an_ (blk_below (pk_ BK538.out) hb)<|D (below_step (pB_ HB.out) hb);clear BK537 BK538 HB;obtain ⟨BK537,BK538,HB⟩:=n_;(try clear hb);have hcz11_0:=cells3 BK538.out))
   refine bodyPost_ret (results_cell_row rfl _ _ gb538 29 #[I L 0,I L 0,I L 0] (0,0) _ rfl Z6 Try.underlying29 rfl (by kernel_rfl)) rfl ?_;exact ⟨er_,pB_ HB.out⟩
  ·rw [if_neg c5] at H
   have c5b0 : decide (a1 < 0) = false := decide_eq_false c5; clear c5; have HU12 := D H; clear H; go_enter Try.func17, Try.ntmps17
   go_upto_if 15 with (first|((with_reducible refine gate_dst (N:=2) rfl ?_);refine bx_ (N:=2) (cs:=#[I L a0_0,I L a0_1,I L a0_2,I L a0_3,I L a0_4,I L a0_5]) (t:=43) ?_;intro gb537 hg w13 hbox hb;have n_:=an_ (below_step (pB_ HB.out) hb)<|an_ (hbox)<|an_ (bg_ hg (pB_ HB.out):w.heap.size≤gb537)<|D (bg_ hg (pB_ HB.out):w.heap.size≤gb537);clear HB;obtain ⟨HB,BK537,GW537,GE537⟩:=n_;clear hb hbox hg)|((with_reducible refine gate_dst (N:=4) rfl ?_);refine bx_ (N:=4) (cs:=#[I L 0,I L 0,I L 0]) (t:=29) ?_;intro gb538 hg w14 hbox hb;have n_:=an_ (blk_below (pk_ BK537.out) hb)<|an_ (below_step (pB_ HB.out) hb)<|an_ (hbox)<|an_ (bg_ hg (pB_ HB.out):w.heap.size≤gb538)<|an_ (bg_ hg (pB_ HB.out):w.heap.size≤gb538)<|an_ (nl_ hg (pk_ BK537.out):gb537≠gb538)<|D (by rw [hg];exact Nat.ne_of_gt (blk_lt (pk_ BK537.out)):gb538≠gb537);clear BK537 HB;obtain ⟨BK537,HB,BK538,GW538,GE538,NB537_538,NB538_537⟩:=n_;clear hb hbox hg;(try have:=NB537_538.out);(try have:=NB538_537.out);have hcz16_0:=cells6 BK537.out)|((with_reducible refine gate_callee (f:=16) rfl ?_);refine goesL_ (some 6) rfl rfl Try.func16 (by kernel_rfl) rfl #[.agg #[I L a0_0,I L a0_1,I L a0_2,I L a0_3,I L a0_4,I L a0_5]] rfl Z15 ?_;(with_reducible refine (spec_ProfOk.calls a0_0 a0_1 a0_2 a0_3 a0_4 a0_5 true _ A3.out).mono ?_);rintro e w17 ⟨rfl,hb⟩;refine ⟨_,rfl,?_⟩;have n_:=an_ (blk_below (pk_ BK537.out) hb)<|an_ (blk_below (pk_ BK538.out) hb)<|D (below_step (pB_ HB.out) hb);clear BK537 BK538 HB;obtain ⟨BK537,BK538,HB⟩:=n_;(try clear hb)))
   have H := HU12.out; clear HU12
   by_cases c18 : a1 > 1600
   ·rw [if_pos c18] at H
    have c18b0:decide (1600 < a1)=true:=decide_eq_true c18;clear c18;refine rw_ c18b0 ?_;simp only [Option.some.injEq,Prod.mk.injEq] at H;obtain ⟨rfl,rfl,rfl⟩:=H;(try have:=NB538_537.out);(try have:=NB537_538.out);have hcz20_0:=cells3 BK538.out
    go_wp2
    refine bodyPost_ret (results_cell_row rfl _ _ gb538 29 #[I L 0,I L 0,I L 0] (0,0) _ rfl Z6 Try.underlying29 rfl (by kernel_rfl)) rfl ?_;exact ⟨er_,pB_ HB.out⟩
   ·rw [if_neg c18] at H
    have c18b0:decide (1600 < a1)=false:=decide_eq_false c18;clear c18;refine rw_ c18b0 ?_;simp only [Option.some.injEq,Prod.mk.injEq] at H;obtain ⟨rfl,rfl,rfl⟩:=H;(try have:=NB537_538.out);(try have:=NB538_537.out);have hcz22_0:=cells6 BK537.out;have hcz23_0:=cells3 BK538.out
    go_wp2
    refine bodyPost_ret (results_cell_row rfl _ _ gb538 29 #[I L (wrap64 (a0_0 + (wrap64 (Int.tdiv (wrap64 (a0_3 * a1)) 64)))),I L (wrap64 (a0_1 + (wrap64 (Int.tdiv (wrap64 (a0_4 * a1)) 64)))),I L (wrap64 (a0_2 + (wrap64 (Int.tdiv (wrap64 (a0_5 * a1)) 64))))] (0,0) _ rfl (by exact pP_ BK538.out) Try.underlying29 rfl (by kernel_rfl)) rfl ?_;exact ⟨er_,pB_ HB.out⟩
 ·replace c4 := Bool.eq_false_iff.mpr c4
  subst c4; rw [if_neg (show ¬ (false = true) by decide)] at H; simp only [Option.some.injEq, Prod.mk.injEq] at H; obtain ⟨rfl, rfl, rfl⟩ := H; go_enter Try.func17, Try.ntmps17
  go_wp2_with (first|((with_reducible refine gate_dst (N:=2) rfl ?_);refine bx_ (N:=2) (cs:=#[I L a0_0,I L a0_1,I L a0_2,I L a0_3,I L a0_4,I L a0_5]) (t:=43) ?_;intro gb537 hg w24 hbox hb;have n_:=an_ (below_step (pB_ HB.out) hb)<|an_ (hbox)<|an_ (bg_ hg (pB_ HB.out):w.heap.size≤gb537)<|D (bg_ hg (pB_ HB.out):w.heap.size≤gb537);clear HB;obtain ⟨HB,BK537,GW537,GE537⟩:=n_;clear hb hbox hg)|((with_reducible refine gate_dst (N:=4) rfl ?_);refine bx_ (N:=4) (cs:=#[I L 0,I L 0,I L 0]) (t:=29) ?_;intro gb538 hg w25 hbox hb;have n_:=an_ (blk_below (pk_ BK537.out) hb)<|an_ (below_step (pB_ HB.out) hb)<|an_ (hbox)<|an_ (bg_ hg (pB_ HB.out):w.heap.size≤gb538)<|an_ (bg_ hg (pB_ HB.out):w.heap.size≤gb538)<|an_ (nl_ hg (pk_ BK537.out):gb537≠gb538)<|D (by rw [hg];exact Nat.ne_of_gt (blk_lt (pk_ BK537.out)):gb538≠gb537);clear BK537 HB;obtain ⟨BK537,HB,BK538,GW538,GE538,NB537_538,NB538_537⟩:=n_;clear hb hbox hg;(try have:=NB537_538.out);(try have:=NB538_537.out);have hcz27_0:=cells6 BK537.out)|((with_reducible refine gate_callee (f:=16) rfl ?_);refine goesL_ (some 6) rfl rfl Try.func16 (by kernel_rfl) rfl #[.agg #[I L a0_0,I L a0_1,I L a0_2,I L a0_3,I L a0_4,I L a0_5]] rfl Z15 ?_;(with_reducible refine (spec_ProfOk.calls a0_0 a0_1 a0_2 a0_3 a0_4 a0_5 false _ A3.out).mono ?_);rintro e w28 ⟨rfl,hb⟩;refine ⟨_,rfl,?_⟩;have n_:=an_ (blk_below (pk_ BK537.out) hb)<|an_ (blk_below (pk_ BK538.out) hb)<|D (below_step (pB_ HB.out) hb);clear BK537 BK538 HB;obtain ⟨BK537,BK538,HB⟩:=n_;(try clear hb);have hcz29_0:=cells3 BK538.out))
  refine bodyPost_ret (results_cell_row rfl _ _ gb538 29 #[I L 0,I L 0,I L 0] (0,0) _ rfl Z6 Try.underlying29 rfl (by kernel_rfl)) rfl ?_;exact ⟨er_,pB_ HB.out⟩

/-! ### spec_Clip: function 18 -/
def spec_Clip.f (a0 a1 a2 : Int) : Option (Int) := if a0 < a1 then (some a1) else (if a0 > a2 then (some a2) else (some a0))
set_option maxHeartbeats 8000000 in
set_option maxRecDepth 100000 in
theorem spec_Clip.calls (a0 a1 a2 r : Int) (w : World) (h : spec_Clip.f a0 a1 a2 = some r) :
  Calls Try.prog 18 #[I L a0, I L a1, I L a2] w fun e w' => e = .returned (I L r) ∧ Drawn0 w w' := by
 have H : (if a0 < a1 then (some a1) else (if a0 > a2 then (some a2) else (some a0))) = some r := h
 clear h
 by_cases c4 : a0 < a1
 ·rw [if_pos c4] at H
  have c4b0 : decide (a0 < a1) = true := decide_eq_true c4; clear c4; obtain rfl := Option.some.inj H; go_enter Try.func18, Try.ntmps18
  go_wp2
  go_ret; exact ⟨by first | rfl | (simp; done) | (simp [*]; done), by repeat (first | exact Drawn0.refl _ | apply Drawn0.step)⟩
 ·rw [if_neg c4] at H
  have c4b0 : decide (a0 < a1) = false := decide_eq_false c4; clear c4
  by_cases c5 : a0 > a2
  ·rw [if_pos c5] at H
   have c5b0 : decide (a2 < a0) = true := decide_eq_true c5; clear c5; obtain rfl := Option.some.inj H; go_enter Try.func18, Try.ntmps18
   go_wp2
   go_ret; exact ⟨by first | rfl | (simp; done) | (simp [*]; done), by repeat (first | exact Drawn0.refl _ | apply Drawn0.step)⟩
  ·rw [if_neg c5] at H
   have c5b0 : decide (a2 < a0) = false := decide_eq_false c5; clear c5; obtain rfl := Option.some.inj H; go_enter Try.func18, Try.ntmps18
   go_wp2
   go_ret; exact ⟨by first | rfl | (simp; done) | (simp [*]; done), by repeat (first | exact Drawn0.refl _ | apply Drawn0.step)⟩

/-! ### spec_ChainCost: function 6 -/
mutual
def spec_ChainCost.j0 : Nat → List (S43) → List (S36) → Int → Bool → Option (Int × Int × Int)
 | 0, _, _, _, _ => none
 | k + 1, x0, x1, x2, x26 => if x26 = true then (some (0, 0, 0)) else (spec_ChainCost.l0 k x0 x1 x2 0)
def spec_ChainCost.l0 : Nat → List (S43) → List (S36) → Int → Int → Option (Int × Int × Int)
 | 0, _, _, _, _ => none
 | k + 1,x0,x1,x2,x7=>if x7 < 7 then (if 0≤x7 then (if x7 < (x0.length:Int) then ((spec_ProfOk.f ((rd_T43 x0 x7).f0.f0) ((rd_T43 x0 x7).f0.f1) ((rd_T43 x0 x7).f0.f2) ((rd_T43 x0 x7).f1.f0) ((rd_T43 x0 x7).f1.f1) ((rd_T43 x0 x7).f1.f2)).bind fun t543=>(if t543=true then (spec_ChainCost.l0 k x0 x1 x2 (wrap64 (x7 + 1))) else (some (0,0,0)))) else (none)) else (none)) else (spec_ChainCost.l1 k x0 x1 x2 0 0 0 0)
def spec_ChainCost.l1 : Nat → List (S43) → List (S36) → Int → Int → Int → Int → Int → Option (Int × Int × Int)
 | 0, _, _, _, _, _, _, _ => none
 | k + 1,x0,x1,x2,x9,x545000,x545001,x545002=>if x9 < (x1.length:Int) then (if 0≤x9 then (if 0≤(wrap64 (((rd_T36 x1 x9).f0) - 1)) then (if (wrap64 (((rd_T36 x1 x9).f0) - 1)) < (x0.length:Int) then ((spec_ProfCost.f ((rd_T43 x0 (wrap64 (((rd_T36 x1 x9).f0) - 1))).f0.f0) ((rd_T43 x0 (wrap64 (((rd_T36 x1 x9).f0) - 1))).f0.f1) ((rd_T43 x0 (wrap64 (((rd_T36 x1 x9).f0) - 1))).f0.f2) ((rd_T43 x0 (wrap64 (((rd_T36 x1 x9).f0) - 1))).f1.f0) ((rd_T43 x0 (wrap64 (((rd_T36 x1 x9).f0) - 1))).f1.f1) ((rd_T43 x0 (wrap64 (((rd_T36 x1 x9).f0) - 1))).f1.f2) x2).bind fun bt547=>(spec_ChainCost.l1 k x0 x1 x2 (wrap64 (x9 + 1)) (wrap64 (x545000 + bt547.1)) (wrap64 (x545001 + bt547.2.1)) (wrap64 (x545002 + bt547.2.2)))) else (none)) else (none)) else (none)) else ((spec_Clip.f x545000 1 1000).bind fun t551=>((spec_Clip.f x545001 1 1000).bind fun t552=>((spec_Clip.f x545002 1 1000).bind fun t553=>(some (t551,t552,t553)))))
end
def spec_ChainCost.f (k : Nat) (l0 : List (S43)) (l1 : List (S36)) (a2 : Int) : Option (Int × Int × Int) := if (l0.length : Int) = 7 then ((spec_ChainOk.f k l1).bind fun t541 => (if t541 = true then (if a2 < 0 then (spec_ChainCost.j0 k l0 l1 a2 true) else (spec_ChainCost.j0 k l0 l1 a2 (decide (a2 > 1600)))) else (spec_ChainCost.j0 k l0 l1 a2 true))) else (spec_ChainCost.j0 k l0 l1 a2 true)
def spec_ChainCost.T16 : Bool × List (List Nat × List Nat) := (true, [([], []), ([0], [0]), ([1], [1]), ([], []), ([3], [3]), ([4, 2], [4]), ([], []), ([6], [6]), ([7, 5], [7]), ([2, 5, 8], [2, 5, 8]), ([9, 8, 0, 1, 2, 3, 4, 5, 6, 7, 8, 9], [9])])
def spec_ChainCost.B16 : List Nat := [0, 1, 3, 0, 8, 31, 0, 64, 255, 511, 1023]
theorem spec_ChainCost.tab16 : rtab .any (opsOf Try.f6 16) = spec_ChainCost.T16 := by kernel_rfl
theorem spec_ChainCost.bits16 : waitsOk spec_ChainCost.T16.2 spec_ChainCost.B16 = true := by kernel_rfl
set_option maxHeartbeats 8000000 in
set_option maxRecDepth 100000 in
theorem spec_ChainCost.calls (k : Nat) (A0 : Option Addr) (c0 : Nat) (l0 : List (S43)) (A1 : Option Addr) (c1 : Nat) (l1 : List (S36)) (a2 r1 r2 r3 : Int) (w : World) (hr0 : Kd.C k43 w A0 l0.length l0) (hc0 : l0.length ≤ c0) (hr1 : Kd.C k36 w A1 l1.length l1) (hc1 : l1.length ≤ c1) (h : spec_ChainCost.f k l0 l1 a2 = some (r1, r2, r3)) :
  Calls Try.prog 6 #[Y A0 l0.length c0, Y A1 l1.length c1, I L a2] w fun e w' => e = .returned (.agg #[I L r1, I L r2, I L r3]) ∧ Below w.heap.size w w' := by
 have hu29 := Try.underlying29
 have hu43 := Try.underlying43
 have HR0 := D hr0
 have HC0 := D hc0
 clear hr0 hc0
 have HR1 := D hr1
 have HC1 := D hc1
 clear hr1 hc1
 have HB := D (Below.refl w.heap.size w)
 have H:(if (l0.length:Int)=7 then ((spec_ChainOk.f k l1).bind fun Md=>(if Md=true then (if a2 < 0 then (spec_ChainCost.j0 k l0 l1 a2 true) else (spec_ChainCost.j0 k l0 l1 a2 (decide (a2 > 1600)))) else (spec_ChainCost.j0 k l0 l1 a2 true))) else (spec_ChainCost.j0 k l0 l1 a2 true))=some (r1,r2,r3):=h
 clear h
 have HC4 := D H
 clear H
 go_enter Try.func6, Try.ntmps6
 go_upto_region 1 with (first|((with_reducible refine gate_dst (N:=6) rfl ?_);refine bx_ (N:=6) (cs:=#[I L 0,I L 0,I L 0]) (t:=29) ?_;intro Ma hg w5 hbox hb;have n_:=an_ (below_step (pB_ HB.out) hb)<|an_ (hbox)<|an_ (bg_ hg (pB_ HB.out):w.heap.size≤Ma)<|D (bg_ hg (pB_ HB.out):w.heap.size≤Ma);clear HB;obtain ⟨HB,Ja,Uh,Xh⟩:=n_;clear hb hbox hg))
 (try simp only [Act.put, List.setIfInBounds_toArray, List.set_cons_zero, List.set_cons_succ])
 go_cut [26] (fun v26 wc=>∃ (kq:Nat) (Mc:Bool),v26=.bool Mc∧Aside0 (spec_ChainCost.j0 kq l0 l1 a2 Mc=some (r1,r2,r3))∧Aside0 (kq≤k)∧Aside0 (wc.heap[Ma]?=some (.cells #[I L 0,I L 0,I L 0] 29 (0,0)))∧Aside0 (Below w.heap.size w wc))
 case first =>
  have H := HC4.out; clear HC4
  by_cases c6 : (l0.length : Int) = 7
  ·rw [if_pos c6] at H
   have c6b0:((l0.length:Int) == 7)=true:=beq_iff_eq.mpr c6;have c6b1:((l0.length:Int) != 7)=false:=bne_eq_false_iff_eq.mpr c6;clear c6;refine rw_ c6b0 ?_;obtain ⟨Md,A70,H⟩:=bs_.mp H;(try dsimp only at H);have A7:=D A70;clear A70
   by_cases c8 : Md = true
   ·subst c8
    rw [if_pos rfl] at H
    by_cases c9 : a2 < 0
    ·rw [if_pos c9] at H
     have c9b0 : decide (a2 < 0) = true := decide_eq_true c9; clear c9; have H' := D H; clear H
     go_wp2_with (first|(go_at_call 15;(with_reducible refine (spec_ChainOk.calls k _ _ l1 true _ ?side1 ?side2 A7.out).mono ?_);(case side1=>exact pC_ (Kd.C_below HR1.out HB.out));(case side2=>exact HC1.out);rintro e w10 ⟨rfl,hb⟩;have n_:=an_ (blk_below (pk_ Ja.out) hb)<|D (below_step (pB_ HB.out) hb);clear Ja HB;obtain ⟨Ja,HB⟩:=n_;(try clear hb)))
     go_meet
     case rel => exact ⟨_, (true), Z22, H', ⟨by first | omega | exact Nat.le_refl _⟩, ⟨pk_ Ja.out⟩, ⟨pB_ HB.out⟩⟩
    ·rw [if_neg c9] at H
     have c9b0 : decide (a2 < 0) = false := decide_eq_false c9; clear c9; have H' := D H; clear H
     go_wp2_with (first|(go_at_call 15;(with_reducible refine (spec_ChainOk.calls k _ _ l1 true _ ?side1 ?side2 A7.out).mono ?_);(case side1=>exact pC_ (Kd.C_below HR1.out HB.out));(case side2=>exact HC1.out);rintro e w11 ⟨rfl,hb⟩;have n_:=an_ (blk_below (pk_ Ja.out) hb)<|D (below_step (pB_ HB.out) hb);clear Ja HB;obtain ⟨Ja,HB⟩:=n_;(try clear hb)))
     go_meet
     case rel => exact ⟨_, (decide (a2 > 1600)), Z22, H', ⟨by first | omega | exact Nat.le_refl _⟩, ⟨pk_ Ja.out⟩, ⟨pB_ HB.out⟩⟩
   ·replace c8 := Bool.eq_false_iff.mpr c8
    subst c8; rw [if_neg (show ¬ (false = true) by decide)] at H; have H' := D H; clear H
    go_wp2_with (first|(go_at_call 15;(with_reducible refine (spec_ChainOk.calls k _ _ l1 false _ ?side1 ?side2 A7.out).mono ?_);(case side1=>exact pC_ (Kd.C_below HR1.out HB.out));(case side2=>exact HC1.out);rintro e w12 ⟨rfl,hb⟩;have n_:=an_ (blk_below (pk_ Ja.out) hb)<|D (below_step (pB_ HB.out) hb);clear Ja HB;obtain ⟨Ja,HB⟩:=n_;(try clear hb)))
    go_meet
    case rel => exact ⟨_, (true), Z22, H', ⟨by first | omega | exact Nat.le_refl _⟩, ⟨pk_ Ja.out⟩, ⟨pB_ HB.out⟩⟩
  ·rw [if_neg c6] at H
   have c6b0:((l0.length:Int) == 7)=false:=beq_eq_false_iff_ne.mpr c6;have c6b1:((l0.length:Int) != 7)=true:=bne_iff_ne.mpr c6;refine rw_ c6b0 ?_;have H':=D H;clear H
   go_wp2
   go_meet
   case rel => exact ⟨_, (true), Z22, H', ⟨by first | omega | exact Nat.le_refl _⟩, ⟨pk_ Ja.out⟩, ⟨pB_ HB.out⟩⟩
 case rest =>
  clear HC4
  (try clear c1);(try clear p2);(try clear c6);(try clear c6b0);(try clear c6b1);(try clear c8);(try clear c9);(try clear c9b0)
  obtain ⟨kq, Mc, rfl, HA, HJ3, Ja, HB⟩ := hcut
  cases kq with
  | zero => exact absurd HA.out (by simp [spec_ChainCost.j0])
  | succ kj3 =>
   have H := HA.out; clear HA; simp only [spec_ChainCost.j0] at H
   by_cases c13 : Mc = true
   ·subst c13
    rw [if_pos rfl] at H; simp only [Option.some.injEq, Prod.mk.injEq] at H; obtain ⟨rfl, rfl, rfl⟩ := H; obtain ⟨Xd, Je, Ke, Me, Oe, Ue⟩ := cells3 Ja.out
    go_wp2
    refine bodyPost_ret (results_cell_row rfl _ _ Ma 29 #[I L 0,I L 0,I L 0] (0,0) _ rfl (by exact pP_ Ja.out) Try.underlying29 rfl (by kernel_rfl)) rfl ?_;exact ⟨er_,pB_ HB.out⟩
   ·replace c13 := Bool.eq_false_iff.mpr c13
    subst c13; rw [if_neg (show ¬ (false = true) by decide)] at H; have H' := D H; clear H
    go_wp2
    go_loopg [7] kj3 (fun kq v7 w'=>∃ (x7_2:Int) (Jc:Int) (Ub:Int) (Mb:Int),v7=I L x7_2∧Aside0 (spec_ChainCost.l0 kq l0 l1 a2 x7_2=some (r1,r2,r3))∧Aside0 (kq≤kj3)∧Aside0 (w'.heap[Ma]?=some (.cells #[I L Jc,I L Ub,I L Mb] 29 (0,0)))∧Aside0 (Below w.heap.size w w'))
    case atStart => exact ⟨(0), (0), (0), (0), Z22, H', ⟨Nat.le_refl _⟩, ⟨pk_ Ja.out⟩, ⟨pB_ HB.out⟩⟩
    case round =>
     clear H'
     (try clear c1);(try clear p2);(try clear c6);(try clear c6b0);(try clear c6b1);(try clear c8);(try clear c9);(try clear c9b0);(try clear c13);(try clear Xd Je Ke Me Oe Ue);(try clear p2)
     obtain ⟨x7_2, Jc, Ub, Mb, rfl, HA, HK2, Ja, HB⟩ := hrel
     cases gk with
     | zero => exact absurd HA.out (by simp [spec_ChainCost.l0])
     | succ k2 =>
      have H := HA.out; clear HA; simp only [spec_ChainCost.l0] at H
      by_cases c15 : x7_2 < 7
      ·rw [if_pos c15] at H
       have c15b0 : decide (x7_2 < 7) = true := decide_eq_true c15; clear c15
       by_cases c16 : 0 ≤ x7_2
       ·rw [if_pos c16] at H
        have c16b0 : decide (0 ≤ x7_2) = true := decide_eq_true c16; clear c16
        by_cases c17 : x7_2 < (l0.length : Int)
        ·rw [if_pos c17] at H
         have c17b0:decide (x7_2 < (l0.length:Int))=true:=decide_eq_true c17;clear c17;obtain ⟨Xe,A180,H⟩:=bs_.mp H;(try dsimp only at H);have A18:=D A180;clear A180;have HU19:=D H;clear H;have p542:0≤(x7_2:Int):=od_ Z21;have q542:x7_2 < (l0.length:Int):=od_ Z21;obtain ⟨ad542,e542,hx542_0,hx542_1,hx542_2,hx542_3,hx542_4,hx542_5⟩:=at_T43 HR0.out x7_2 p542 q542;cases e542;replace hx542_0:=rc_ HB.out hx542_0;replace hx542_1:=rc_ HB.out hx542_1;replace hx542_2:=rc_ HB.out hx542_2;replace hx542_3:=rc_ HB.out hx542_3;replace hx542_4:=rc_ HB.out hx542_4;replace hx542_5:=rc_ HB.out hx542_5;replace p542:=eq_true p542;replace q542:=eq_true q542
         go_upto_if 37 with (first|((with_reducible refine gate_callee (f:=16) rfl ?_);refine goesL_ (some 36) rfl rfl Try.func16 (by kernel_rfl) rfl #[.agg #[I L ((rd_T43 l0 x7_2).f0.f0),I L ((rd_T43 l0 x7_2).f0.f1),I L ((rd_T43 l0 x7_2).f0.f2),I L ((rd_T43 l0 x7_2).f1.f0),I L ((rd_T43 l0 x7_2).f1.f1),I L ((rd_T43 l0 x7_2).f1.f2)]] rfl Z15 ?_;(with_reducible refine (spec_ProfOk.calls ((rd_T43 l0 x7_2).f0.f0) ((rd_T43 l0 x7_2).f0.f1) ((rd_T43 l0 x7_2).f0.f2) ((rd_T43 l0 x7_2).f1.f0) ((rd_T43 l0 x7_2).f1.f1) ((rd_T43 l0 x7_2).f1.f2) Xe _ A18.out).mono ?_);rintro e w20 ⟨rfl,hb⟩;refine ⟨_,rfl,?_⟩;have n_:=an_ (blk_below (pk_ Ja.out) hb)<|D (below_step (pB_ HB.out) hb);clear Ja HB;obtain ⟨Ja,HB⟩:=n_;(try clear hb)))
         have H := HU19.out; clear HU19
         by_cases c21 : Xe = true
         ·subst c21
          rw [if_pos rfl] at H; have H' := D H; clear H
          go_wp2
          go_roundg k2
          case measure => have := HJ3.out; have := HK2.out; omega
          case rel => exact ⟨(wrap64 (x7_2 + 1)), (Jc), (Ub), (Mb), Z22, H', ⟨by have := HJ3.out; have := HK2.out; omega⟩, ⟨pk_ Ja.out⟩, ⟨pB_ HB.out⟩⟩
         ·replace c21 := Bool.eq_false_iff.mpr c21
          subst c21;rw [if_neg (show ¬ (false=true) by decide)] at H;simp only [Option.some.injEq,Prod.mk.injEq] at H;obtain ⟨rfl,rfl,rfl⟩:=H;have Mf:=cells3 Ja.out
          go_wp2
          refine bodyPost_ret (results_cell_row rfl _ _ Ma 29 #[I L 0,I L 0,I L 0] (0,0) _ rfl (by exact pP_ Ja.out) Try.underlying29 rfl (by kernel_rfl)) rfl ?_;exact ⟨er_,pB_ HB.out⟩
        ·rw [if_neg c17] at H
         exact absurd H (by simp)
       ·rw [if_neg c16] at H
        exact absurd H (by simp)
      ·rw [if_neg c15] at H
       have c15b0 : decide (x7_2 < 7) = false := decide_eq_false c15; clear c15; have H' := D H; clear H
       go_wp2_with (first|((with_reducible refine gate_dst (N:=8) rfl ?_);refine bx_ (N:=8) (cs:=#[I L 0,I L 0,I L 0]) (t:=29) ?_;intro Oa hg w23 hbox hb;have n_:=an_ (blk_below (pk_ Ja.out) hb)<|an_ (below_step (pB_ HB.out) hb)<|an_ (hbox)<|an_ (bg_ hg (pB_ HB.out):w.heap.size≤Oa)<|an_ (bg_ hg (pB_ HB.out):w.heap.size≤Oa)<|an_ (nl_ hg (pk_ Ja.out):Ma≠Oa)<|D (by rw [hg];exact Nat.ne_of_gt (blk_lt (pk_ Ja.out)):Oa≠Ma);clear Ja HB;obtain ⟨Ja,HB,Ka,Ji,Ki,Ob,Ua⟩:=n_;clear hb hbox hg;(try have:=Ua.out);(try have:=Ob.out);have Mg:=cells3 Ka.out))
       go_loopg [9] k2 (fun kq v9 w'=>∃ (x9_3:Int) (Xa:Int) (Jb:Int) (Kb:Int),v9=I L x9_3∧Aside0 (spec_ChainCost.l1 kq l0 l1 a2 x9_3 Xa Jb Kb=some (r1,r2,r3))∧Aside0 (kq≤k2)∧Aside0 (w'.heap[Ma]?=some (.cells #[I L Jc,I L Ub,I L Mb] 29 (0,0)))∧Aside0 (w'.heap[Oa]?=some (.cells #[I L Xa,I L Jb,I L Kb] 29 (0,0)))∧Aside0 (Below w.heap.size w w'))
       case atStart=>exact ⟨(0),(0),(0),(0),Z22,H',⟨Nat.le_refl _⟩,⟨pP_ Ja.out⟩,⟨pP_ Ka.out⟩,⟨pB_ HB.out⟩⟩
       case round =>
        clear H'
        (try clear c1);(try clear c2);(try clear p2);(try clear p5);(try clear q5);(try clear hx5);(try clear c6);(try clear c6b0);(try clear c6b1);(try clear p6);(try clear c8);(try clear c9);(try clear c9b0);(try clear c13);(try clear c15);(try clear c15b0);(try clear c16);(try clear c16b0);(try clear c17);(try clear c17b0);(try clear c21);(try clear c24);(try clear Xd Je Ke Me Oe Ue);(try clear Mf);(try clear Mg);(try clear hx542_0 hx542_1 hx542_2 hx542_3 hx542_4 hx542_5);(try clear p2);(try clear p542);(try clear q542)
        obtain ⟨x9_3, Xa, Jb, Kb, rfl, HA, HK3, Ja, Ka, HB⟩ := hrel
        cases gk with
        | zero => exact absurd HA.out (by simp [spec_ChainCost.l1])
        | succ k3 =>
         have H := HA.out; clear HA; simp only [spec_ChainCost.l1] at H
         by_cases c26 : x9_3 < (l1.length : Int)
         ·rw [if_pos c26] at H
          have c26b0 : decide (x9_3 < (l1.length : Int)) = true := decide_eq_true c26; clear c26
          by_cases c27 : 0 ≤ x9_3
          ·rw [if_pos c27] at H
           have c27b0 : decide (0 ≤ x9_3) = true := decide_eq_true c27; clear c27; obtain ⟨ji28, hji28⟩ : ∃ j_ : Int, (wrap64 (((rd_T36 l1 x9_3).f0) - 1)) = j_ := ⟨_, rfl⟩
           replace H:(if 0≤(ji28) then (if (ji28) < (l0.length:Int) then ((spec_ProfCost.f ((rd_T43 l0 (ji28)).f0.f0) ((rd_T43 l0 (ji28)).f0.f1) ((rd_T43 l0 (ji28)).f0.f2) ((rd_T43 l0 (ji28)).f1.f0) ((rd_T43 l0 (ji28)).f1.f1) ((rd_T43 l0 (ji28)).f1.f2) a2).bind fun bt547=>(spec_ChainCost.l1 k3 l0 l1 a2 (wrap64 (x9_3 + 1)) (wrap64 (Xa + bt547.1)) (wrap64 (Jb + bt547.2.1)) (wrap64 (Kb + bt547.2.2)))) else (none)) else (none))=some (r1,r2,r3):=by first|(rw [hji28] at H;exact H)|(simp only [hji28] at H ⊢;exact H)
           have hji28w : (IntKind.i64.wrap (((rd_T36 l1 x9_3).f0) - 1)) = ji28 := (i64_w _).trans hji28
           by_cases c29 : 0 ≤ (ji28)
           ·rw [if_pos c29] at H
            have c29b0 : decide (0 ≤ (ji28)) = true := decide_eq_true c29; clear c29
            by_cases c30 : (ji28) < (l0.length : Int)
            ·rw [if_pos c30] at H
             have c30b0:decide ((ji28) < (l0.length:Int))=true:=decide_eq_true c30;clear c30;obtain ⟨⟨Oc,Od,Jf⟩,A310,H⟩:=bs_.mp H;(try dsimp only at H);have A31:=D A310;clear A310;have H':=D H;clear H;have p545:0≤(x9_3:Int):=od_ Z21;have q545:x9_3 < (l1.length:Int):=od_ Z21;obtain ⟨ad545,e545,hx545_0,hx545_1,hx545_2,hx545_3,hx545_4,hx545_5,hx545_6,hx545_7,hx545_8,hx545_9,hx545_10,hx545_11,hx545_12,hx545_13,hx545_14,hx545_15,hx545_16⟩:=at_T36 HR1.out x9_3 p545 q545;cases e545;replace hx545_0:=rc_ HB.out hx545_0;replace hx545_1:=rc_ HB.out hx545_1;replace hx545_2:=rc_ HB.out hx545_2;replace hx545_3:=rc_ HB.out hx545_3;replace hx545_4:=rc_ HB.out hx545_4;replace hx545_5:=rc_ HB.out hx545_5;replace hx545_6:=rc_ HB.out hx545_6;replace hx545_7:=rc_ HB.out hx545_7;replace hx545_8:=rc_ HB.out hx545_8;replace hx545_9:=rc_ HB.out hx545_9;replace hx545_10:=rc_ HB.out hx545_10;replace hx545_11:=rc_ HB.out hx545_11;replace hx545_12:=rc_ HB.out hx545_12;replace hx545_13:=rc_ HB.out hx545_13;replace hx545_14:=rc_ HB.out hx545_14;replace hx545_15:=rc_ HB.out hx545_15;replace hx545_16:=rc_ HB.out hx545_16;replace p545:=eq_true p545;replace q545:=eq_true q545;have p546:0≤((ji28):Int):=od_ Z21;have q546:(ji28) < (l0.length:Int):=od_ Z21;obtain ⟨ad546,e546,hx546_0,hx546_1,hx546_2,hx546_3,hx546_4,hx546_5⟩:=at_T43 HR0.out (ji28) p546 q546;cases e546;replace hx546_0:=rc_ HB.out hx546_0;replace hx546_1:=rc_ HB.out hx546_1;replace hx546_2:=rc_ HB.out hx546_2;replace hx546_3:=rc_ HB.out hx546_3;replace hx546_4:=rc_ HB.out hx546_4;replace hx546_5:=rc_ HB.out hx546_5;replace p546:=eq_true p546;replace q546:=eq_true q546
             go_wp2_with (first|((with_reducible refine gate_callee (f:=17) rfl ?_);refine goesL_ (some 56) rfl rfl Try.func17 (by kernel_rfl) rfl #[.agg #[I L ((rd_T43 l0 (ji28)).f0.f0),I L ((rd_T43 l0 (ji28)).f0.f1),I L ((rd_T43 l0 (ji28)).f0.f2),I L ((rd_T43 l0 (ji28)).f1.f0),I L ((rd_T43 l0 (ji28)).f1.f1),I L ((rd_T43 l0 (ji28)).f1.f2)],I L a2] rfl (by (try simp only [List.map_toArray,List.map_cons,List.map_nil]);first|done|(simp only [hji28];rfl)|rfl|(simp only [List.length_drop,List.length_take];rfl)) ?_;(with_reducible refine (spec_ProfCost.calls ((rd_T43 l0 (ji28)).f0.f0) ((rd_T43 l0 (ji28)).f0.f1) ((rd_T43 l0 (ji28)).f0.f2) ((rd_T43 l0 (ji28)).f1.f0) ((rd_T43 l0 (ji28)).f1.f1) ((rd_T43 l0 (ji28)).f1.f2) a2 Oc Od Jf _ A31.out).mono ?_);rintro e w32 ⟨rfl,hb⟩;refine ⟨_,rfl,?_⟩;have n_:=an_ (blk_below (pk_ Ja.out) hb)<|an_ (blk_below (pk_ Ka.out) hb)<|D (below_step (pB_ HB.out) hb);clear Ja Ka HB;obtain ⟨Ja,Ka,HB⟩:=n_;(try clear hb))|((with_reducible refine gate_dst (N:=10) rfl ?_);refine bx_ (N:=10) (cs:=#[I L 0,I L 0,I L 0]) (t:=29) ?_;intro Xb hg w33 hbox hb;have n_:=an_ (blk_below (pk_ Ja.out) hb)<|an_ (blk_below (pk_ Ka.out) hb)<|an_ (below_step (pB_ HB.out) hb)<|an_ (hbox)<|an_ (bg_ hg (pB_ HB.out):w.heap.size≤Xb)<|an_ (bg_ hg (pB_ HB.out):w.heap.size≤Xb)<|an_ (nl_ hg (pk_ Ja.out):Ma≠Xb)<|an_ (ng_ hg (pk_ Ja.out):Xb≠Ma)<|an_ (nl_ hg (pk_ Ka.out):Oa≠Xb)<|D (by rw [hg];exact Nat.ne_of_gt (blk_lt (pk_ Ka.out)):Xb≠Oa);clear Ja Ka HB;obtain ⟨Ja,Ka,HB,Kc,Mi,Oi,Uc,Mh,Xc,Oh⟩:=n_;clear hb hbox hg;(try have:=Mh.out);(try have:=Uc.out);(try have:=Oh.out);(try have:=Xc.out);have Ui:=cells3 Kc.out;(try have:=Ua.out);(try have:=Ob.out);have Uj:=cells3 Ka.out))
             go_roundg k3
             case measure => have := HJ3.out; have := HK2.out; have := HK3.out; omega
             case rel=>exact ⟨(wrap64 (x9_3 + 1)),(wrap64 (Xa + Oc)),(wrap64 (Jb + Od)),(wrap64 (Kb + Jf)),Z22,H',⟨by have:=HJ3.out;have:=HK2.out;have:=HK3.out;omega⟩,⟨pP_ Ja.out⟩,⟨pP_ Ka.out⟩,⟨pB_ HB.out⟩⟩
            ·rw [if_neg c30] at H
             exact absurd H (by simp)
           ·rw [if_neg c29] at H
            exact absurd H (by simp)
          ·rw [if_neg c27] at H
           exact absurd H (by simp)
         ·rw [if_neg c26] at H
          have c26b0:decide (x9_3 < (l1.length:Int))=false:=decide_eq_false c26;clear c26;obtain ⟨Jd,A390,H⟩:=bs_.mp H;(try dsimp only at H);have A39:=D A390;clear A390;obtain ⟨Ud,A400,H⟩:=bs_.mp H;(try dsimp only at H);have A40:=D A400;clear A400;obtain ⟨Kf,A410,H⟩:=bs_.mp H;(try dsimp only at H);have A41:=D A410;clear A410;simp only [Option.some.injEq,Prod.mk.injEq] at H;obtain ⟨rfl,rfl,rfl⟩:=H
          try go_wp2
          have n_ := an_ (blk_drew Ja.out) <| an_ (blk_drew Ka.out) <| D (below_drew1 HB.out)
          clear Ja Ka HB;obtain ⟨Ja,Ka,HB⟩:=n_;refine start_ (n:=11) (S:=fun w'=>w'.cell? ⟨Oa,0,none⟩=some (I L Xa)∧w'.cell? ⟨Oa,1,none⟩=some (I L Jb)∧w'.cell? ⟨Oa,2,none⟩=some (I L Kb)) (ds:=[]) (bz 11 0) (by kernel_rfl) rfl (by kernel_rfl) (be3_ Ka.out) (fun hHeld=>?_);refine with_tabW spec_ChainCost.tab16 spec_ChainCost.bits16 (fun HT_ HW_=>?_);generalize wr.drew=w42 at Ja Ka HB hHeld ⊢;refine pb_ 0 ?_;refine pb_ 3 ?_;refine pb_ 6 ?_;refine tb_ 1 rfl rfl hHeld Z20 ?_;refine tb_ 4 rfl rfl hHeld Z20 ?_;refine tb_ 7 rfl rfl hHeld Z20 ?_;refine oa_ 2 77 11 223 HT_ (fun K hK=>?_);refine goes_ Try.func18 (by kernel_rfl) rfl #[I L Xa,I L 1,I L 1000] (by rfl) rfl rfl Z15 ?_;with_reducible refine (spec_Clip.calls Xa 1 1000 Jd _ A39.out).mono ?_
          rintro e w' ⟨rfl,⟨nd,rfl⟩⟩;refine ⟨_,rfl,?_⟩;refine hK.out _ _ (be3_ Ka.out) (fun hHeld=>?_);clear hK K;refine nx_ (N:=some 77) ?_;refine oa_ 5 80 11 255 HT_ (fun K hK=>?_);refine goes_ Try.func18 (by kernel_rfl) rfl #[I L Jb,I L 1,I L 1000] (by rfl) rfl rfl Z15 ?_;with_reducible refine (spec_Clip.calls Jb 1 1000 Ud _ A40.out).mono ?_
          rintro e w' ⟨rfl,⟨nd,rfl⟩⟩;refine ⟨_,rfl,?_⟩;refine hK.out _ _ (be3_ Ka.out) (fun hHeld=>?_);clear hK K;refine nx_ (N:=some 80) ?_;refine oa_ 8 83 11 511 HT_ (fun K hK=>?_);refine goes_ Try.func18 (by kernel_rfl) rfl #[I L Kb,I L 1,I L 1000] (by rfl) rfl rfl Z15 ?_;with_reducible refine (spec_Clip.calls Kb 1 1000 Kf _ A41.out).mono ?_
          rintro e w' ⟨rfl,⟨nd,rfl⟩⟩;refine ⟨_,rfl,?_⟩;refine hK.out _ _ (be3_ Ka.out) (fun hHeld=>?_);clear hK K;refine nx_ (N:=some 83) ?_;refine pb_ 9 ?_;refine one_ (i:=10) (N:=none) (bz 11 2047) rfl rfl (one_of HT_.out (by kernel_rfl)) (by decide) (fun K hK=>?_);have hs43:w42.cell? ⟨Ma,0,none⟩=some (I L Jc):=bc_ Ja.out 0;have hfs43:=blk_frozen Ja.out 0;have hns43_1:=Ua.out;have hms43_1:=Ob.out;have hs44:w42.cell? ⟨Ma,1,none⟩=some (I L Ub):=bc_ Ja.out 1;have hfs44:=blk_frozen Ja.out 1;have hns44_1:=Ua.out;have hms44_1:=Ob.out;have hs45:w42.cell? ⟨Ma,2,none⟩=some (I L Mb):=bc_ Ja.out 2;have hfs45:=blk_frozen Ja.out 2;have hns45_1:=Ua.out;have hms45_1:=Ob.out;refine skip_ (w1:=?_) (by rfl) rfl ?_ ?_;rotate_left
          ·go_simp
           rfl
          refine hK.out _ _ ⟨(cF_ Ua.out (hHeld.1)),(cF_ Ua.out (hHeld.2.1)),(cF_ Ua.out (hHeld.2.2))⟩ (fun hHeld=>?_);clear hK K;refine done_ (done_of HT_.out (by kernel_rfl)) ?_
          try go_wp2
          refine bodyPost_ret (results_cell_row rfl _ _ Ma 29 #[I L Jd,I L Ud,I L Kf] (0,0) _ rfl (by exact pP_ Ja.out) Try.underlying29 rfl (by kernel_rfl)) rfl ?_;exact ⟨er_,pB_ HB.out⟩

end Go.Proofs.Ytoacddcbiceeeab.PFnCostAdds
