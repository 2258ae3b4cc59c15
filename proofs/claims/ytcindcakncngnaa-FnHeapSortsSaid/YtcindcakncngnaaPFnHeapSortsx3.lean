-- by a program of this session's, over the kit's words
import Derived.Test.YtcindcakncngnaaPZFnHeapSorts
import Derived.Test.YtcindcakncngnaaPFnHeapSortsx0
import Derived.Test.YtcindcakncngnaaPFnHeapSortsx2
namespace Go.Proofs.Ytcindcakncngnaa.PFnHeapSorts
open Go.RowKit Go.Proofs.YtcindcakncngnaaW.PrintWords Go.Proofs.YtcindcakncngnaaW.PrintLast Go.Proofs.YtcindcakncngnaaW.PrintMore Go.Proofs.YtcindcakncngnaaV Go.Proofs.Ytcindcakncngnaa.ZFnHeapSorts
open Go.Value renaming int → I, slice → Y
open Go.IntKind renaming i64 → L
open Aside0 renaming mk → D
open Option renaming bind_eq_some_iff → bs_
attribute [local go_sem] max2_int min2_int max_two min_two max_three min_three max_four min_four   -- for this text's walks alone
set_option linter.unusedVariables false
set_option linter.unusedSimpArgs false

/-! ### spec_l15At: function 14 -/
def spec_l15At.l0 : Nat → List (S32) → Int → Int → Option (Int)
 | 0, _, _, _ => none
 | k + 1, x0, x1, x5 => if x5 < (x0.length : Int) then (if 0 ≤ x5 then (if ((rd_T32 x0 x5).f1) = x1 then (some x5) else (spec_l15At.l0 k x0 x1 (wrap64 (x5 + 1)))) else (none)) else (some (-1))
def spec_l15At.f (k : Nat) (l0 : List (S32)) (a1 : Int) : Option (Int) := spec_l15At.l0 k l0 a1 0
set_option maxHeartbeats 8000000 in
set_option maxRecDepth 100000 in
theorem spec_l15At.calls (k : Nat) (A0 : Option Addr) (c0 : Nat) (l0 : List (S32)) (a1 r : Int) (w : World) (hr0 : Kd.C k32 w A0 l0.length l0) (hc0 : l0.length ≤ c0) (h : spec_l15At.f k l0 a1 = some r) :
  Calls Try.prog 14 #[Y A0 l0.length c0, I L a1] w fun e w' => e = .returned (I L r) ∧ Drawn0 w w' := by
 have HR0 := D hr0
 have HC0 := D hc0
 clear hr0 hc0
 have H : (spec_l15At.l0 k l0 a1 0) = some r := h
 clear h
 have H' := D H
 clear H
 go_enter Try.func14, Try.ntmps14
 go_wp2
 go_loopg [5] k (fun kq v5 w' => ∃ (x5_1 : Int), v5 = I L x5_1 ∧ Aside0 (spec_l15At.l0 kq l0 a1 x5_1 = some r) ∧ Aside0 (kq ≤ k) ∧ Drawn0 w w')
 case atStart => exact ⟨(0), Z23, H', ⟨Nat.le_refl _⟩, by repeat (first | exact Drawn0.refl _ | apply Drawn0.step)⟩
 case round =>
  clear H'
  (try clear c1);(try clear p2)
  obtain ⟨x5_1, rfl, HA, HK1, ⟨m1, rfl⟩⟩ := hrel
  cases gk with
  | zero => exact absurd HA.out (by simp [spec_l15At.l0])
  | succ k1 =>
   have H := HA.out; clear HA; simp only [spec_l15At.l0] at H
   by_cases c3 : x5_1 < (l0.length : Int)
   ·rw [if_pos c3] at H
    have c3b0 : decide (x5_1 < (l0.length : Int)) = true := decide_eq_true c3; clear c3
    by_cases c4 : 0 ≤ x5_1
    ·rw [if_pos c4] at H
     have c4b0:decide (0≤x5_1)=true:=decide_eq_true c4;clear c4;have HU5:=D H;clear H;have p137:0≤(x5_1:Int):=od_ Z22;have q137:x5_1 < (l0.length:Int):=od_ Z22;obtain ⟨ad137,e137,hx137_0,hx137_1⟩:=at_T32 HR0.out x5_1 p137 q137;cases e137;replace p137:=eq_true p137;replace q137:=eq_true q137
     go_upto_if 18 with (fail)
     have H := HU5.out; clear HU5
     by_cases c6 : ((rd_T32 l0 x5_1).f1) = a1
     ·rw [if_pos c6] at H
      have c6b0:(((rd_T32 l0 x5_1).f1) == a1)=true:=beq_iff_eq.mpr c6;have c6b1:(((rd_T32 l0 x5_1).f1) != a1)=false:=bne_eq_false_iff_eq.mpr c6;clear c6;refine rw_ c6b0 ?_;obtain rfl:=Option.some.inj H
      go_wp2
      go_ret; exact ⟨by first | rfl | (simp; done) | (simp [*]; done), by repeat (first | exact Drawn0.refl _ | apply Drawn0.step)⟩
     ·rw [if_neg c6] at H
      have c6b0:(((rd_T32 l0 x5_1).f1) == a1)=false:=beq_eq_false_iff_ne.mpr c6;have c6b1:(((rd_T32 l0 x5_1).f1) != a1)=true:=bne_iff_ne.mpr c6;refine rw_ c6b0 ?_;have H':=D H;clear H
      go_wp2
      go_roundg k1
      case measure => have := HK1.out; omega
      case rel => exact ⟨(wrap64 (x5_1 + 1)), Z23, H', ⟨by have := HK1.out; omega⟩, by repeat (first | exact Drawn0.refl _ | apply Drawn0.step)⟩
    ·rw [if_neg c4] at H
     exact absurd H (by simp)
   ·rw [if_neg c3] at H
    have c3b0 : decide (x5_1 < (l0.length : Int)) = false := decide_eq_false c3; clear c3; obtain rfl := Option.some.inj H
    go_wp2
    go_ret; exact ⟨by first | rfl | (simp; done) | (simp [*]; done), by repeat (first | exact Drawn0.refl _ | apply Drawn0.step)⟩

/-! ### spec_Ahead: function 15 -/
def spec_Ahead.f (a0_0 a0_1 a1_0 a1_1 : Int) : Option (Bool) := if a0_0 < a1_0 then (some true) else (if a0_0 = a1_0 then (some (decide (a0_1 < a1_1))) else (some false))
set_option maxHeartbeats 8000000 in
set_option maxRecDepth 100000 in
theorem spec_Ahead.calls (a0_0 a0_1 a1_0 a1_1 : Int) (r : Bool) (w : World) (h : spec_Ahead.f a0_0 a0_1 a1_0 a1_1 = some r) :
  Calls Try.prog 15 #[.agg #[I L a0_0, I L a0_1], .agg #[I L a1_0, I L a1_1]] w fun e w' => e = .returned (.bool r) ∧ Below w.heap.size w w' := by
 have hu32 := Try.underlying32
 have HB := D (Below.refl w.heap.size w)
 have H : (if a0_0 < a1_0 then (some true) else (if a0_0 = a1_0 then (some (decide (a0_1 < a1_1))) else (some false))) = some r := h
 clear h
 by_cases c3 : a0_0 < a1_0
 ·rw [if_pos c3] at H
  have c3b0 : decide (a0_0 < a1_0) = true := decide_eq_true c3; clear c3; obtain rfl := Option.some.inj H; go_enter Try.func15, Try.ntmps15
  go_wp2_with (first|((with_reducible refine gate_dst (N:=2) rfl ?_);refine bx_ (N:=2) (cs:=#[I L a0_0,I L a0_1]) (t:=32) ?_;intro gb138 hg w4 hbox hb;have n_:=an_ (below_step (pB_ HB.out) hb)<|an_ (hbox)<|an_ (bg_ hg (pB_ HB.out):w.heap.size≤gb138)<|D (bg_ hg (pB_ HB.out):w.heap.size≤gb138);clear HB;obtain ⟨HB,BK138,GW138,GE138⟩:=n_;clear hb hbox hg)|((with_reducible refine gate_dst (N:=3) rfl ?_);refine bx_ (N:=3) (cs:=#[I L a1_0,I L a1_1]) (t:=32) ?_;intro gb139 hg w5 hbox hb;have n_:=an_ (blk_below (pk_ BK138.out) hb)<|an_ (below_step (pB_ HB.out) hb)<|an_ (hbox)<|an_ (bg_ hg (pB_ HB.out):w.heap.size≤gb139)<|an_ (bg_ hg (pB_ HB.out):w.heap.size≤gb139)<|an_ (nl_ hg (pk_ BK138.out):gb138≠gb139)<|D (by rw [hg];exact Nat.ne_of_gt (blk_lt (pk_ BK138.out)):gb139≠gb138);clear BK138 HB;obtain ⟨BK138,HB,BK139,GW139,GE139,NB138_139,NB139_138⟩:=n_;clear hb hbox hg;(try have:=NB138_139.out);(try have:=NB139_138.out);have hcz7_0:=cells2 BK138.out;have hcz8_0:=cells2 BK139.out))
  go_ret; exact ⟨er_, pB_ HB.out⟩
 ·rw [if_neg c3] at H
  have c3b0 : decide (a0_0 < a1_0) = false := decide_eq_false c3; clear c3
  by_cases c9 : a0_0 = a1_0
  ·rw [if_pos c9] at H
   have c9b0:(a0_0 == a1_0)=true:=beq_iff_eq.mpr c9;have c9b1:(a0_0 != a1_0)=false:=bne_eq_false_iff_eq.mpr c9;clear c9;obtain rfl:=Option.some.inj H;go_enter Try.func15,Try.ntmps15
   go_wp2_with (first|((with_reducible refine gate_dst (N:=2) rfl ?_);refine bx_ (N:=2) (cs:=#[I L a0_0,I L a0_1]) (t:=32) ?_;intro gb138 hg w10 hbox hb;have n_:=an_ (below_step (pB_ HB.out) hb)<|an_ (hbox)<|an_ (bg_ hg (pB_ HB.out):w.heap.size≤gb138)<|D (bg_ hg (pB_ HB.out):w.heap.size≤gb138);clear HB;obtain ⟨HB,BK138,GW138,GE138⟩:=n_;clear hb hbox hg)|((with_reducible refine gate_dst (N:=3) rfl ?_);refine bx_ (N:=3) (cs:=#[I L a1_0,I L a1_1]) (t:=32) ?_;intro gb139 hg w11 hbox hb;have n_:=an_ (blk_below (pk_ BK138.out) hb)<|an_ (below_step (pB_ HB.out) hb)<|an_ (hbox)<|an_ (bg_ hg (pB_ HB.out):w.heap.size≤gb139)<|an_ (bg_ hg (pB_ HB.out):w.heap.size≤gb139)<|an_ (nl_ hg (pk_ BK138.out):gb138≠gb139)<|D (by rw [hg];exact Nat.ne_of_gt (blk_lt (pk_ BK138.out)):gb139≠gb138);clear BK138 HB;obtain ⟨BK138,HB,BK139,GW139,GE139,NB138_139,NB139_138⟩:=n_;clear hb hbox hg;(try have:=NB138_139.out);(try have:=NB139_138.out);have hcz13_0:=cells2 BK138.out;have hcz14_0:=cells2 BK139.out))
   go_ret; exact ⟨er_, pB_ HB.out⟩
  ·rw [if_neg c9] at H
   have c9b0 : (a0_0 == a1_0) = false := beq_eq_false_iff_ne.mpr c9; have c9b1 : (a0_0 != a1_0) = true := bne_iff_ne.mpr c9; obtain rfl := Option.some.inj H; go_enter Try.func15, Try.ntmps15
   go_wp2_with (first|((with_reducible refine gate_dst (N:=2) rfl ?_);refine bx_ (N:=2) (cs:=#[I L a0_0,I L a0_1]) (t:=32) ?_;intro gb138 hg w15 hbox hb;have n_:=an_ (below_step (pB_ HB.out) hb)<|an_ (hbox)<|an_ (bg_ hg (pB_ HB.out):w.heap.size≤gb138)<|D (bg_ hg (pB_ HB.out):w.heap.size≤gb138);clear HB;obtain ⟨HB,BK138,GW138,GE138⟩:=n_;clear hb hbox hg)|((with_reducible refine gate_dst (N:=3) rfl ?_);refine bx_ (N:=3) (cs:=#[I L a1_0,I L a1_1]) (t:=32) ?_;intro gb139 hg w16 hbox hb;have n_:=an_ (blk_below (pk_ BK138.out) hb)<|an_ (below_step (pB_ HB.out) hb)<|an_ (hbox)<|an_ (bg_ hg (pB_ HB.out):w.heap.size≤gb139)<|an_ (bg_ hg (pB_ HB.out):w.heap.size≤gb139)<|an_ (nl_ hg (pk_ BK138.out):gb138≠gb139)<|D (by rw [hg];exact Nat.ne_of_gt (blk_lt (pk_ BK138.out)):gb139≠gb138);clear BK138 HB;obtain ⟨BK138,HB,BK139,GW139,GE139,NB138_139,NB139_138⟩:=n_;clear hb hbox hg;(try have:=NB138_139.out);(try have:=NB139_138.out);have hcz18_0:=cells2 BK138.out;have hcz19_0:=cells2 BK139.out))
   go_ret; exact ⟨er_, pB_ HB.out⟩

/-! ### spec_HeapOk: function 6 -/
mutual
def spec_HeapOk.l0 : Nat → Int → List (S32) → Option (Bool)
 | 0, _, _ => none
 | k + 1,x3,x141000=>if x3 < (x141000.length:Int) then (if 0≤x3 then ((spec_ItemOk.f ((rd_T32 x141000 x3).f0) ((rd_T32 x141000 x3).f1)).bind fun t142=>(if t142=true then ((spec_l15At.f k x141000 ((rd_T32 x141000 x3).f1)).bind fun t144=>(spec_HeapOk.j1 k x3 (t144 != x3) x141000)) else (spec_HeapOk.j1 k x3 true x141000))) else (none)) else (some true)
def spec_HeapOk.j1 : Nat → Int → Bool → List (S32) → Option (Bool)
 | 0, _, _, _ => none
 | k + 1,x3,x34,x141000=>if x34=true then (some false) else (if x3 > 0 then (if 0≤x3 then (if x3 < (x141000.length:Int) then (if 0≤(wrap64 (Int.tdiv (wrap64 (x3 - 1)) 2)) then (if (wrap64 (Int.tdiv (wrap64 (x3 - 1)) 2)) < (x141000.length:Int) then ((spec_Ahead.f ((rd_T32 x141000 x3).f0) ((rd_T32 x141000 x3).f1) ((rd_T32 x141000 (wrap64 (Int.tdiv (wrap64 (x3 - 1)) 2))).f0) ((rd_T32 x141000 (wrap64 (Int.tdiv (wrap64 (x3 - 1)) 2))).f1)).bind fun t147=>(if t147=true then (some false) else (spec_HeapOk.l0 k (wrap64 (x3 + 1)) x141000))) else (none)) else (none)) else (none)) else (none)) else (spec_HeapOk.l0 k (wrap64 (x3 + 1)) x141000))
end
def spec_HeapOk.f (k : Nat) (l0_0 : List (S32)) : Option (Bool) := if (l0_0.length : Int) > 64 then (some false) else (spec_HeapOk.l0 k 0 l0_0)
def spec_HeapOk.T6 : Bool × List (List Nat × List Nat) := (true, [([], []), ([0], [0]), ([], []), ([1, 2], [1, 2]), ([3], [3]), ([4], [4]), ([5], [5]), ([6, 5], [6]), ([7], [7]), ([8, 7], [7, 8]), ([7], [7]), ([10, 7], [7, 10]), ([7], [7]), ([11, 12, 7], [7, 11, 12]), ([13, 7], [7, 13]), ([14, 7], [7, 14]), ([9, 15, 7, 7], [7, 9, 15]), ([7], [7]), ([16, 17, 7], [7, 16, 17]), ([7, 18], [7, 18])])
def spec_HeapOk.B6 : List Nat := [0, 1, 0, 7, 15, 31, 63, 127, 255, 511, 255, 1279, 255, 7423, 15615, 31999, 65535, 255, 262143, 524287]
theorem spec_HeapOk.tab6 : rtab .any (opsOf Try.f6 6) = spec_HeapOk.T6 := by kernel_rfl
theorem spec_HeapOk.bits6 : waitsOk spec_HeapOk.T6.2 spec_HeapOk.B6 = true := by kernel_rfl
def spec_HeapOk.T8 : Bool × List (List Nat × List Nat) := (true, [([], []), ([0], [0]), ([1], [1]), ([2], [2]), ([3, 2], [2, 3]), ([2], [2]), ([4, 5, 2], [2, 4, 5]), ([6, 2], [2, 6]), ([2], [2]), ([8, 2], [2, 8]), ([2], [2]), ([10, 2], [2, 10]), ([11, 2], [2, 11]), ([9, 12, 2], [2, 9, 12]), ([13, 2], [2, 13]), ([7, 14, 2, 2], [2, 7, 14]), ([2, 15], [2, 15])])
def spec_HeapOk.B8 : List Nat := [0, 1, 3, 7, 15, 7, 63, 127, 7, 263, 7, 1031, 3079, 7943, 16135, 32767, 65535]
theorem spec_HeapOk.tab8 : rtab .any (opsOf Try.f6 8) = spec_HeapOk.T8 := by kernel_rfl
theorem spec_HeapOk.bits8 : waitsOk spec_HeapOk.T8.2 spec_HeapOk.B8 = true := by kernel_rfl
set_option maxHeartbeats 8000000 in
set_option maxRecDepth 100000 in
theorem spec_HeapOk.calls (k : Nat) (A0_0 : Option Addr) (c0_0 : Nat) (l0_0 : List (S32)) (r : Bool) (w : World) (hr0_0 : Kd.C k32 w A0_0 l0_0.length l0_0) (hc0_0 : l0_0.length ≤ c0_0) (h : spec_HeapOk.f k l0_0 = some r) :
  Calls Try.prog 6 #[.agg #[Y A0_0 l0_0.length c0_0]] w fun e w' => e = .returned (.bool r) ∧ Below w.heap.size w w' := by
 have hu26 := Try.underlying26
 have hu32 := Try.underlying32
 have HR0_0 := D hr0_0
 have HC0_0 := D hc0_0
 clear hr0_0 hc0_0
 have HB := D (Below.refl w.heap.size w)
 have H : (if (l0_0.length : Int) > 64 then (some false) else (spec_HeapOk.l0 k 0 l0_0)) = some r := h
 clear h
 have HU2 := D H
 clear H
 go_enter Try.func6, Try.ntmps6
 go_upto_if 7 with (first|((with_reducible refine gate_dst (N:=1) rfl ?_);refine bx_ (N:=1) (cs:=#[Y A0_0 l0_0.length c0_0]) (t:=26) ?_;intro Ka hg w3 hbox hb;have n_:=an_ (below_step (pB_ HB.out) hb)<|an_ (hbox)<|an_ (bg_ hg (pB_ HB.out):w.heap.size≤Ka)<|D (bg_ hg (pB_ HB.out):w.heap.size≤Ka);clear HB;obtain ⟨HB,Ja,Ub,Xb⟩:=n_;clear hb hbox hg;have Ua:=cells1 Ja.out))
 have H := HU2.out
 clear HU2
 by_cases c5 : (l0_0.length : Int) > 64
 ·rw [if_pos c5] at H
  have c5b0:decide (64 < (l0_0.length:Int))=true:=decide_eq_true c5;have c5b1:decide (64 < l0_0.length)=true:=decide_eq_true (by omega);clear c5;refine rw_ c5b0 ?_;obtain rfl:=Option.some.inj H
  go_wp2
  go_ret; exact ⟨er_, pB_ HB.out⟩
 ·rw [if_neg c5] at H
  have c5b0:decide (64 < (l0_0.length:Int))=false:=decide_eq_false c5;have c5b1:decide (64 < l0_0.length)=false:=decide_eq_false (by omega);clear c5;refine rw_ c5b0 ?_;have H':=D H;clear H
  go_wp2
  go_loopg [3] k (fun kq v3 w'=>∃ (x3_1:Int),v3=I L x3_1∧Aside0 (spec_HeapOk.l0 kq x3_1 l0_0=some r)∧Aside0 (kq≤k)∧Aside0 (w'.heap[Ka]?=some (.cells #[(Y A0_0 l0_0.length c0_0)] 26 (0,0)))∧Aside0 (Below w.heap.size w w'))
  case atStart => exact ⟨(0), Z23, H', ⟨Nat.le_refl _⟩, ⟨pk_ Ja.out⟩, ⟨pB_ HB.out⟩⟩
  case round =>
   clear H'
   (try clear p2);(try clear c5);(try clear c5b0);(try clear c5b1);(try clear Ua)
   obtain ⟨x3_1, rfl, HA, HK1, Ja, HB⟩ := hrel
   cases gk with
   | zero => exact absurd HA.out (by simp [spec_HeapOk.l0])
   | succ k1 =>
    have H := HA.out; clear HA; simp only [spec_HeapOk.l0] at H
    by_cases c6 : x3_1 < (l0_0.length : Int)
    ·rw [if_pos c6] at H
     have c6b0 : decide (x3_1 < (l0_0.length : Int)) = true := decide_eq_true c6; clear c6; have HC7 := D H; clear H; obtain ⟨Kb, Mb⟩ := cells1 Ja.out
     go_upto_region 6 with (fail)
     go_cut [34] (fun v34 wc=>∃ (kq:Nat) (Ma:Bool),v34=.bool Ma∧Aside0 (spec_HeapOk.j1 kq x3_1 Ma l0_0=some r)∧Aside0 (kq≤k1)∧Aside0 (wc.heap[Ka]?=some (.cells #[(Y A0_0 l0_0.length c0_0)] 26 (0,0)))∧Aside0 (Below w.heap.size w wc))
     case first =>
      have H := HC7.out; clear HC7
      by_cases c9 : 0 ≤ x3_1
      ·rw [if_pos c9] at H
       have c9b0:decide (0≤x3_1)=true:=decide_eq_true c9;clear c9;refine rw_ c9b0 ?_;obtain ⟨Ob,A100,H⟩:=bs_.mp H;(try dsimp only at H);have A10:=D A100;clear A100
       by_cases c11 : Ob = true
       ·subst c11
        rw [if_pos rfl] at H; obtain ⟨Jb, A120, H⟩ := bs_.mp H; (try dsimp only at H); have A12 := D A120; clear A120; have H' := D H; clear H
        try go_wp2
        have n_ := an_ (blk_drew Ja.out) <| D (below_drew1 HB.out)
        clear Ja HB;obtain ⟨Ja,HB⟩:=n_;have p141:0≤(x3_1:Int):=od_ Z22;have q141:x3_1 < (l0_0.length:Int):=od_ Z22;obtain ⟨ad141,e141,hx141_0,hx141_1⟩:=at_T32 HR0_0.out x3_1 p141 q141;have hw141_1:=hx141_1;have hw141_0:=hx141_0;cases e141;replace hx141_0:=rc_ HB.out hx141_0;replace hx141_1:=rc_ HB.out hx141_1;replace p141:=eq_true p141;replace q141:=eq_true q141;have p143:0≤(x3_1:Int):=od_ Z22;have q143:x3_1 < (l0_0.length:Int):=od_ Z22;obtain ⟨ad143,e143,hx143_0,hx143_1⟩:=at_T32 HR0_0.out x3_1 p143 q143;have hw143_1:=hx143_1;have hw143_0:=hx143_0;obtain rfl:ad141=ad143:=(by injection e143);replace hx143_0:=rc_ HB.out hx143_0;replace hx143_1:=rc_ HB.out hx143_1;replace p143:=eq_true p143;replace q143:=eq_true q143;refine start_ (n:=20) (S:=fun w'=>w'.cell? ⟨Ka,0,none⟩=some (Y (some ad141) l0_0.length c0_0)∧w'.cell? (ad141.add ((x3_1).toNat * 2))=some (I L ((rd_T32 l0_0 x3_1).f0))∧w'.cell? ⟨(ad141.add ((x3_1).toNat * 2)).block,(ad141.add ((x3_1).toNat * 2)).off + 1,none⟩=some (I L ((rd_T32 l0_0 x3_1).f1))∧w'.cell? (ad141.add ((x3_1).toNat * 2))=some (I L ((rd_T32 l0_0 x3_1).f0))∧w'.cell? ⟨(ad141.add ((x3_1).toNat * 2)).block,(ad141.add ((x3_1).toNat * 2)).off + 1,none⟩=some (I L ((rd_T32 l0_0 x3_1).f1))) (ds:=[]) (bz 20 0) (by kernel_rfl) rfl (by kernel_rfl) ⟨bc_ Ja.out 0,re4_ HB.out hw141_0 hw141_1 hw143_0 hw143_1⟩ (fun hHeld=>?_);refine with_tabW spec_HeapOk.tab6 spec_HeapOk.bits6 (fun HT_ HW_=>?_);generalize wr.drew=w13 at Ja HB hx141_0 hx141_1 hx143_0 hx143_1 hHeld ⊢;refine pb_ 0 ?_;refine pb_ 2 ?_;refine tb_ 1 rfl rfl hHeld Z20 ?_;refine pb_ 3 ?_;refine tb_ 4 rfl rfl hHeld Z20 ?_;refine oa_ 5 20 20 63 HT_ (fun K hK=>?_);refine goes_ Try.func13 (by kernel_rfl) rfl #[.agg #[I L ((rd_T32 l0_0 x3_1).f0),I L ((rd_T32 l0_0 x3_1).f1)]] (by rfl) rfl rfl Z9 ?_;with_reducible refine (spec_ItemOk.calls ((rd_T32 l0_0 x3_1).f0) ((rd_T32 l0_0 x3_1).f1) true _ A10.out).mono ?_
        rintro e w14 ⟨rfl, hb⟩; refine ⟨_, rfl, ?_⟩
        have n_ := an_ (blk_below (pk_ Ja.out) hb) <| D (below_step (pB_ HB.out) hb)
        clear Ja HB;obtain ⟨Ja,HB⟩:=n_;refine hK.out _ _ ⟨bc_ Ja.out 0,re4_ HB.out hw141_0 hw141_1 hw143_0 hw143_1⟩ (fun hHeld=>?_);clear hK K;refine nx_ (N:=some 20) ?_;refine pb_ 6 ?_;refine pb_ 7 ?_;refine pb_ 8 ?_;refine pb_ 10 ?_;refine pb_ 12 ?_;refine pb_ 17 ?_;refine tb_ 9 rfl rfl hHeld Z20 ?_;refine tb_ 11 rfl rfl hHeld Z20 ?_;refine pb_ 13 ?_;refine pb_ 14 ?_;refine tb_ 15 rfl rfl hHeld Z20 ?_;refine oa_ 16 31 20 262143 HT_ (fun K hK=>?_);refine goes_ Try.func14 (by kernel_rfl) rfl #[Y (some ad141) l0_0.length c0_0,I L ((rd_T32 l0_0 x3_1).f1)] (by rfl) rfl rfl Z9 ?_;with_reducible refine (spec_l15At.calls k1 _ _ l0_0 ((rd_T32 l0_0 x3_1).f1) Jb _ ?side1 ?side2 A12.out).mono ?_
        (case side1=>exact pC_ (Kd.C_below HR0_0.out HB.out));(case side2=>exact HC0_0.out);rintro e w' ⟨rfl,⟨nd,rfl⟩⟩;refine ⟨_,rfl,?_⟩;refine hK.out _ _ ⟨bc_ Ja.out 0,re4_ HB.out hw141_0 hw141_1 hw143_0 hw143_1⟩ (fun hHeld=>?_);clear hK K;refine nx_ (N:=some 31) ?_;refine pb_ 18 ?_;refine pb_ 19 ?_;refine done_ (done_of HT_.out (by kernel_rfl)) ?_
        try go_wp2
        go_meet
        case rel => exact ⟨_, ((Jb != x3_1)), Z23, H', ⟨by have := HK1.out; first | omega | exact Nat.le_refl _⟩, ⟨pk_ Ja.out⟩, ⟨pB_ HB.out⟩⟩
       ·replace c11 := Bool.eq_false_iff.mpr c11
        subst c11; rw [if_neg (show ¬ (false = true) by decide)] at H; have H' := D H; clear H
        try go_wp2
        (try (rw [drewN_self wr];generalize hq_:World.drewN wr _=wr;have n0_:Aside0 (wr.heap[Ka]?=some (.cells #[Y A0_0 l0_0.length c0_0] 26 (0,0))):=⟨by rw [← hq_];exact (pk_ Ja.out)⟩;have n1_:Aside0 (Below w.heap.size w wr):=⟨by rw [← hq_];exact (pB_ HB.out)⟩;clear Ja HB hq_;have Ja:=n0_;have HB:=n1_;clear n0_ n1_))
        have n_ := an_ (blk_drew Ja.out) <| D (below_drew1 HB.out)
        clear Ja HB;obtain ⟨Ja,HB⟩:=n_;have p141:0≤(x3_1:Int):=od_ Z22;have q141:x3_1 < (l0_0.length:Int):=od_ Z22;obtain ⟨ad141,e141,hx141_0,hx141_1⟩:=at_T32 HR0_0.out x3_1 p141 q141;have hw141_1:=hx141_1;have hw141_0:=hx141_0;cases e141;replace hx141_0:=rc_ HB.out hx141_0;replace hx141_1:=rc_ HB.out hx141_1;replace p141:=eq_true p141;replace q141:=eq_true q141;refine start_ (n:=20) (S:=fun w'=>w'.cell? ⟨Ka,0,none⟩=some (Y (some ad141) l0_0.length c0_0)∧w'.cell? (ad141.add ((x3_1).toNat * 2))=some (I L ((rd_T32 l0_0 x3_1).f0))∧w'.cell? ⟨(ad141.add ((x3_1).toNat * 2)).block,(ad141.add ((x3_1).toNat * 2)).off + 1,none⟩=some (I L ((rd_T32 l0_0 x3_1).f1))) (ds:=[]) (bz 20 0) (by kernel_rfl) rfl (by kernel_rfl) ⟨bc_ Ja.out 0,(rc_ HB.out hw141_0:),(rc_ HB.out hw141_1:)⟩ (fun hHeld=>?_);refine with_tabW spec_HeapOk.tab6 spec_HeapOk.bits6 (fun HT_ HW_=>?_);generalize wr.drew=w15 at Ja HB hx141_0 hx141_1 hHeld ⊢;refine pb_ 0 ?_;refine pb_ 2 ?_;refine tb_ 1 rfl rfl hHeld Z21 ?_;refine pb_ 3 ?_;refine tb_ 4 rfl rfl hHeld Z21 ?_;refine oa_ 5 20 20 63 HT_ (fun K hK=>?_);refine goes_ Try.func13 (by kernel_rfl) rfl #[.agg #[I L ((rd_T32 l0_0 x3_1).f0),I L ((rd_T32 l0_0 x3_1).f1)]] (by rfl) rfl rfl Z9 ?_;with_reducible refine (spec_ItemOk.calls ((rd_T32 l0_0 x3_1).f0) ((rd_T32 l0_0 x3_1).f1) false _ A10.out).mono ?_
        rintro e w16 ⟨rfl, hb⟩; refine ⟨_, rfl, ?_⟩
        have n_ := an_ (blk_below (pk_ Ja.out) hb) <| D (below_step (pB_ HB.out) hb)
        clear Ja HB;obtain ⟨Ja,HB⟩:=n_;refine hK.out _ _ ⟨bc_ Ja.out 0,(rc_ HB.out hw141_0:),(rc_ HB.out hw141_1:)⟩ (fun hHeld=>?_);clear hK K;refine nx_ (N:=some 20) ?_;refine pb_ 6 ?_;refine pb_ 7 ?_;refine ob_ 8 ?_;refine ob_ 9 ?_;refine ob_ 10 ?_;refine ob_ 11 ?_;refine ob_ 12 ?_;refine ob_ 13 ?_;refine ob_ 14 ?_;refine ob_ 15 ?_;refine ob_ 16 ?_;refine ob_ 17 ?_;refine ob_ 18 ?_;refine pb_ 19 ?_;refine done_ (done_of HT_.out (by kernel_rfl)) ?_
        try go_wp2
        go_meet
        case rel => exact ⟨_, (true), Z23, H', ⟨by have := HK1.out; first | omega | exact Nat.le_refl _⟩, ⟨pk_ Ja.out⟩, ⟨pB_ HB.out⟩⟩
      ·rw [if_neg c9] at H
       exact absurd H (by simp)
     case rest =>
      clear HC7
      (try clear c1);(try clear p1);(try clear q1);(try clear hx1);(try clear p2);(try clear c5);(try clear c5b0);(try clear c5b1);(try clear c6);(try clear c6b0);(try clear c9);(try clear c9b0);(try clear c11);(try clear c13);(try clear c14);(try clear p14);(try clear q14);(try clear hx14);(try clear Ua);(try clear Kb Mb);(try clear hx141_0 hx141_1);(try clear hx143_0 hx143_1);(try clear p141);(try clear p143);(try clear p2);(try clear q141);(try clear q143)
      obtain ⟨kq, Ma, rfl, HA, HJ6, Ja, HB⟩ := hcut
      cases kq with
      | zero => exact absurd HA.out (by simp [spec_HeapOk.j1])
      | succ kj6 =>
       have H := HA.out; clear HA; simp only [spec_HeapOk.j1] at H
       by_cases c17 : Ma = true
       ·subst c17
        rw [if_pos rfl] at H; obtain rfl := Option.some.inj H
        go_wp2
        go_ret; exact ⟨er_, pB_ HB.out⟩
       ·replace c17 := Bool.eq_false_iff.mpr c17
        subst c17; rw [if_neg (show ¬ (false = true) by decide)] at H
        by_cases c18 : x3_1 > 0
        ·rw [if_pos c18] at H
         have c18b0 : decide (0 < x3_1) = true := decide_eq_true c18; clear c18
         by_cases c19 : 0 ≤ x3_1
         ·rw [if_pos c19] at H
          have c19b0 : decide (0 ≤ x3_1) = true := decide_eq_true c19; clear c19
          by_cases c20 : x3_1 < (l0_0.length : Int)
          ·rw [if_pos c20] at H
           have c20b0 : decide (x3_1 < (l0_0.length : Int)) = true := decide_eq_true c20; clear c20; obtain ⟨ji21, hji21⟩ : ∃ j_ : Int, (wrap64 (Int.tdiv (wrap64 (x3_1 - 1)) 2)) = j_ := ⟨_, rfl⟩
           replace H:(if 0≤(ji21) then (if (ji21) < (l0_0.length:Int) then ((spec_Ahead.f ((rd_T32 l0_0 x3_1).f0) ((rd_T32 l0_0 x3_1).f1) ((rd_T32 l0_0 (ji21)).f0) ((rd_T32 l0_0 (ji21)).f1)).bind fun Oa=>(if Oa=true then (some false) else (spec_HeapOk.l0 kj6 (wrap64 (x3_1 + 1)) l0_0))) else (none)) else (none))=some r:=by first|(rw [hji21] at H;exact H)|(simp only [hji21] at H ⊢;exact H)
           have hji21w : (IntKind.i64.wrap (Int.tdiv (wrap64 (x3_1 - 1)) 2)) = ji21 := (i64_w _).trans hji21
           by_cases c22 : 0 ≤ (ji21)
           ·rw [if_pos c22] at H
            have c22b0 : decide (0 ≤ (ji21)) = true := decide_eq_true c22; clear c22
            by_cases c23 : (ji21) < (l0_0.length : Int)
            ·rw [if_pos c23] at H
             have c23b0:decide ((ji21) < (l0_0.length:Int))=true:=decide_eq_true c23;clear c23;obtain ⟨Oa,A240,H⟩:=bs_.mp H;(try dsimp only at H);have A24:=D A240;clear A240;have HU25:=D H;clear H
             try go_wp2
             (try (rw [drewN_self wc];generalize hq_:World.drewN wc _=wc;have n0_:Aside0 (wc.heap[Ka]?=some (.cells #[Y A0_0 l0_0.length c0_0] 26 (0,0))):=⟨by rw [← hq_];exact (pk_ Ja.out)⟩;have n1_:Aside0 (Below w.heap.size w wc):=⟨by rw [← hq_];exact (pB_ HB.out)⟩;clear Ja HB hq_;have Ja:=n0_;have HB:=n1_;clear n0_ n1_))
             have n_ := an_ (blk_drew Ja.out) <| D (below_drew1 HB.out)
             clear Ja HB;obtain ⟨Ja,HB⟩:=n_;have p145:0≤(x3_1:Int):=od_ Z22;have q145:x3_1 < (l0_0.length:Int):=od_ Z22;obtain ⟨ad145,e145,hx145_0,hx145_1⟩:=at_T32 HR0_0.out x3_1 p145 q145;have hw145_1:=hx145_1;have hw145_0:=hx145_0;cases e145;replace hx145_0:=rc_ HB.out hx145_0;replace hx145_1:=rc_ HB.out hx145_1;replace p145:=eq_true p145;replace q145:=eq_true q145;have p146:0≤((ji21):Int):=od_ Z22;have q146:(ji21) < (l0_0.length:Int):=od_ Z22;obtain ⟨ad146,e146,hx146_0,hx146_1⟩:=at_T32 HR0_0.out (ji21) p146 q146;have hw146_1:=hx146_1;have hw146_0:=hx146_0;obtain rfl:ad145=ad146:=(by injection e146);replace hx146_0:=rc_ HB.out hx146_0;replace hx146_1:=rc_ HB.out hx146_1;replace p146:=eq_true p146;replace q146:=eq_true q146;refine start_ (n:=17) (S:=fun w'=>w'.cell? ⟨Ka,0,none⟩=some (Y (some ad145) l0_0.length c0_0)∧w'.cell? (ad145.add ((x3_1).toNat * 2))=some (I L ((rd_T32 l0_0 x3_1).f0))∧w'.cell? ⟨(ad145.add ((x3_1).toNat * 2)).block,(ad145.add ((x3_1).toNat * 2)).off + 1,none⟩=some (I L ((rd_T32 l0_0 x3_1).f1))∧w'.cell? (ad145.add (((ji21)).toNat * 2))=some (I L ((rd_T32 l0_0 (ji21)).f0))∧w'.cell? ⟨(ad145.add (((ji21)).toNat * 2)).block,(ad145.add (((ji21)).toNat * 2)).off + 1,none⟩=some (I L ((rd_T32 l0_0 (ji21)).f1))) (ds:=[]) (bz 17 0) (by kernel_rfl) rfl (by kernel_rfl) ⟨bc_ Ja.out 0,re4_ HB.out hw145_0 hw145_1 hw146_0 hw146_1⟩ (fun hHeld=>?_);refine with_tabW spec_HeapOk.tab8 spec_HeapOk.bits8 (fun HT_ HW_=>?_);generalize wc.drew=w26 at Ja HB hx145_0 hx145_1 hx146_0 hx146_1 hHeld ⊢;refine pb_ 0 ?_;refine pb_ 1 ?_;refine pb_ 2 ?_;refine pb_ 3 ?_;refine pb_ 5 ?_;refine pb_ 8 ?_;refine pb_ 10 ?_;refine pb_ 11 ?_;refine pb_ 12 ?_;refine tb_ 4 rfl rfl hHeld Z20 ?_;refine pb_ 6 ?_;refine tb_ 7 rfl rfl hHeld Z20 ?_;refine tb_ 9 rfl rfl hHeld Z20 ?_;refine pb_ 13 ?_;refine tb_ 14 rfl rfl hHeld Z20 ?_;refine oa_ 15 50 17 65535 HT_ (fun K hK=>?_);refine goes_ Try.func15 (by kernel_rfl) rfl #[.agg #[I L ((rd_T32 l0_0 x3_1).f0),I L ((rd_T32 l0_0 x3_1).f1)],.agg #[I L ((rd_T32 l0_0 (ji21)).f0),I L ((rd_T32 l0_0 (ji21)).f1)]] (by rfl) rfl rfl (by (try simp only [List.map_toArray,List.map_cons,List.map_nil]);first|done|(simp only [hji21];rfl)|rfl|(simp only [List.length_drop,List.length_take];rfl)) ?_
             with_reducible refine (spec_Ahead.calls ((rd_T32 l0_0 x3_1).f0) ((rd_T32 l0_0 x3_1).f1) ((rd_T32 l0_0 (ji21)).f0) ((rd_T32 l0_0 (ji21)).f1) Oa _ A24.out).mono ?_
             rintro e w27 ⟨rfl, hb⟩; refine ⟨_, rfl, ?_⟩
             have n_ := an_ (blk_below (pk_ Ja.out) hb) <| D (below_step (pB_ HB.out) hb)
             clear Ja HB;obtain ⟨Ja,HB⟩:=n_;refine hK.out _ _ ⟨bc_ Ja.out 0,re4_ HB.out hw145_0 hw145_1 hw146_0 hw146_1⟩ (fun hHeld=>?_);clear hK K;refine nx_ (N:=some 50) ?_;refine pb_ 16 ?_;refine done_ (done_of HT_.out (by kernel_rfl)) ?_
             go_upto_if 51 with (fail)
             have H := HU25.out; clear HU25
             by_cases c28 : Oa = true
             ·subst c28
              rw [if_pos rfl] at H; obtain rfl := Option.some.inj H
              go_wp2
              go_ret;exact ⟨by first|rfl|(simp [errW_none,errW_some] <;> rfl)|(simp only [← hji21];first|rfl|(simp [errW_none,errW_some] <;> rfl))|(simp [*,errW_none,errW_some] <;> rfl),pB_ HB.out⟩
             ·replace c28 := Bool.eq_false_iff.mpr c28
              subst c28; rw [if_neg (show ¬ (false = true) by decide)] at H; have H' := D H; clear H
              go_wp2
              go_roundg kj6
              case measure => have := HK1.out; have := HJ6.out; omega
              case rel => exact ⟨(wrap64 (x3_1 + 1)), Z23, H', ⟨by have := HK1.out; have := HJ6.out; omega⟩, ⟨pk_ Ja.out⟩, ⟨pB_ HB.out⟩⟩
            ·rw [if_neg c23] at H
             exact absurd H (by simp)
           ·rw [if_neg c22] at H
            exact absurd H (by simp)
          ·rw [if_neg c20] at H
           exact absurd H (by simp)
         ·rw [if_neg c19] at H
          exact absurd H (by simp)
        ·rw [if_neg c18] at H
         have c18b0 : decide (0 < x3_1) = false := decide_eq_false c18; clear c18; have H' := D H; clear H
         try go_wp2
         (try (rw [drewN_self wc];generalize hq_:World.drewN wc _=wc;have n0_:Aside0 (wc.heap[Ka]?=some (.cells #[Y A0_0 l0_0.length c0_0] 26 (0,0))):=⟨by rw [← hq_];exact (pk_ Ja.out)⟩;have n1_:Aside0 (Below w.heap.size w wc):=⟨by rw [← hq_];exact (pB_ HB.out)⟩;clear Ja HB hq_;have Ja:=n0_;have HB:=n1_;clear n0_ n1_))
         have n_ := an_ (blk_drew Ja.out) <| D (below_drew1 HB.out)
         clear Ja HB;obtain ⟨Ja,HB⟩:=n_;refine start_ (n:=17) (S:=fun w'=>True) (ds:=[]) (bz 17 0) (by kernel_rfl) rfl (by kernel_rfl) trivial (fun hHeld=>?_);refine with_tabW spec_HeapOk.tab8 spec_HeapOk.bits8 (fun HT_ HW_=>?_);generalize wc.drew=w29 at Ja HB hHeld ⊢;refine pb_ 0 ?_;refine pb_ 1 ?_;refine pb_ 2 ?_;refine ob_ 3 ?_;refine ob_ 4 ?_;refine ob_ 5 ?_;refine ob_ 6 ?_;refine ob_ 7 ?_;refine ob_ 8 ?_;refine ob_ 9 ?_;refine ob_ 10 ?_;refine ob_ 11 ?_;refine ob_ 12 ?_;refine ob_ 13 ?_;refine ob_ 14 ?_;refine ob_ 15 ?_;refine pb_ 16 ?_;refine done_ (done_of HT_.out (by kernel_rfl)) ?_
         try go_wp2
         go_roundg kj6
         case measure => have := HK1.out; have := HJ6.out; omega
         case rel => exact ⟨(wrap64 (x3_1 + 1)), Z23, H', ⟨by have := HK1.out; have := HJ6.out; omega⟩, ⟨pk_ Ja.out⟩, ⟨pB_ HB.out⟩⟩
    ·rw [if_neg c6] at H
     have c6b0 : decide (x3_1 < (l0_0.length : Int)) = false := decide_eq_false c6; clear c6; obtain rfl := Option.some.inj H; obtain ⟨Jc, Kc⟩ := cells1 Ja.out
     go_wp2
     go_ret; exact ⟨er_, pB_ HB.out⟩

/-! ### spec_l15Swap: function 55 -/
def spec_l15Swap.f (l0 : List (S32)) (a1 a2 : Int) : Option ((List (S32))) := (some (([] : List (S32)) : List (S32))).bind fun y148 => (if y148.length + l0.length < 8796093022208 then ((some (y148 ++ l0 : List (S32))).bind fun y151 => (if 0 ≤ a2 then (if a2 < (l0.length : Int) then (if 0 ≤ a1 then (if a1 < (y151.length : Int) then (if a1 < (l0.length : Int) then (if a2 < (y151.length : Int) then (some ((y151.set (a1 : Int).toNat (⟨(rd_T32 l0 a2).f0, (rd_T32 l0 a2).f1⟩ : S32)).set (a2 : Int).toNat (⟨(rd_T32 l0 a1).f0, (rd_T32 l0 a1).f1⟩ : S32))) else (none)) else (none)) else (none)) else (none)) else (none)) else (none))) else (none))
set_option maxHeartbeats 8000000 in
set_option maxRecDepth 100000 in
theorem spec_l15Swap.calls (A0 : Option Addr) (c0 : Nat) (l0 : List (S32)) (a1 a2 : Int) (r : List (S32)) (w : World) (hr0 : Kd.C k32 w A0 l0.length l0) (hc0 : l0.length ≤ c0) (h : spec_l15Swap.f l0 a1 a2 = some r) :
  Calls Try.prog 55 #[Y A0 l0.length c0,I L a1,I L a2] w fun e w'=>∃ v0_:Value,e=.returned (v0_)∧Kd.R k32 32 w' w.heap.size (fun _=>True) v0_ r∧Below w.heap.size w w':=by
 have hu32 := Try.underlying32
 have HR0 := D hr0
 have HC0 := D hc0
 clear hr0 hc0
 have HB := D (Below.refl w.heap.size w)
 have H:((some (([]:List (S32)):List (S32))).bind fun y148=>(if y148.length + l0.length < 8796093022208 then ((some (y148 ++ l0:List (S32))).bind fun y151=>(if 0≤a2 then (if a2 < (l0.length:Int) then (if 0≤a1 then (if a1 < (y151.length:Int) then (if a1 < (l0.length:Int) then (if a2 < (y151.length:Int) then (some ((y151.set (a1:Int).toNat (⟨(rd_T32 l0 a2).f0,(rd_T32 l0 a2).f1⟩:S32)).set (a2:Int).toNat (⟨(rd_T32 l0 a1).f0,(rd_T32 l0 a1).f1⟩:S32))) else (none)) else (none)) else (none)) else (none)) else (none)) else (none))) else (none)))=some r:=h
 clear h
 obtain ⟨y148, hy148⟩ : ∃ y_ : List (S32), y_ = (([] : List (S32))) := ⟨_, rfl⟩
 replace H:(if y148.length + l0.length < 8796093022208 then ((some (y148 ++ l0:List (S32))).bind fun y151=>(if 0≤a2 then (if a2 < (l0.length:Int) then (if 0≤a1 then (if a1 < (y151.length:Int) then (if a1 < (l0.length:Int) then (if a2 < (y151.length:Int) then (some ((y151.set (a1:Int).toNat (⟨(rd_T32 l0 a2).f0,(rd_T32 l0 a2).f1⟩:S32)).set (a2:Int).toNat (⟨(rd_T32 l0 a1).f0,(rd_T32 l0 a1).f1⟩:S32))) else (none)) else (none)) else (none)) else (none)) else (none)) else (none))) else (none))=some r:=by first|(rw [hy148];with_reducible exact H)|(have H2_:=(Option.bind_some _ _).symm.trans H;rw [hy148];with_reducible exact H2_)|(have H2_:=(Option.bind_some _ _).symm.trans H;with_reducible exact H2_)|with_reducible exact H|(rw [hy148];exact H)|exact H
 have Ny148 := D hy148
 clear hy148
 by_cases c4 : y148.length + l0.length < 8796093022208
 ·rw [if_pos c4] at H
  have LMc4 := D c4; clear c4; obtain ⟨y151, hy151⟩ : ∃ y_ : List (S32), y_ = (y148 ++ l0) := ⟨_, rfl⟩
  replace H:(if 0≤a2 then (if a2 < (l0.length:Int) then (if 0≤a1 then (if a1 < (y151.length:Int) then (if a1 < (l0.length:Int) then (if a2 < (y151.length:Int) then (some ((y151.set (a1:Int).toNat (⟨(rd_T32 l0 a2).f0,(rd_T32 l0 a2).f1⟩:S32)).set (a2:Int).toNat (⟨(rd_T32 l0 a1).f0,(rd_T32 l0 a1).f1⟩:S32))) else (none)) else (none)) else (none)) else (none)) else (none)) else (none))=some r:=by first|(rw [hy151];with_reducible exact H)|(have H2_:=(Option.bind_some _ _).symm.trans H;rw [hy151];with_reducible exact H2_)|(have H2_:=(Option.bind_some _ _).symm.trans H;with_reducible exact H2_)|with_reducible exact H|(rw [hy151];exact H)|exact H
  have Ny151 := D hy151; clear hy151
  by_cases c5 : 0 ≤ a2
  ·rw [if_pos c5] at H
   have c5b0 : decide (0 ≤ a2) = true := decide_eq_true c5; clear c5
   by_cases c6 : a2 < (l0.length : Int)
   ·rw [if_pos c6] at H
    have c6b0 : decide (a2 < (l0.length : Int)) = true := decide_eq_true c6; clear c6
    by_cases c7 : 0 ≤ a1
    ·rw [if_pos c7] at H
     have c7b0 : decide (0 ≤ a1) = true := decide_eq_true c7; clear c7
     by_cases c8 : a1 < (y151.length : Int)
     ·rw [if_pos c8] at H
      have c8b0:decide (a1 < (y151.length:Int))=true:=decide_eq_true c8;clear c8;obtain ⟨y155,hy155⟩:∃ y_:List (S32),y_=(y151.set (a1:Int).toNat (⟨(rd_T32 l0 a2).f0,(rd_T32 l0 a2).f1⟩:S32)):=⟨_,rfl⟩
      replace H:(if a1 < (l0.length:Int) then (if a2 < (y151.length:Int) then (some (y155.set (a2:Int).toNat (⟨(rd_T32 l0 a1).f0,(rd_T32 l0 a1).f1⟩:S32))) else (none)) else (none))=some r:=by first|(rw [hy155];with_reducible exact H)|(have H2_:=(Option.bind_some _ _).symm.trans H;rw [hy155];with_reducible exact H2_)|(have H2_:=(Option.bind_some _ _).symm.trans H;with_reducible exact H2_)|with_reducible exact H|(rw [hy155];exact H)|exact H
      have Ny155 := D hy155; clear hy155
      by_cases c10 : a1 < (l0.length : Int)
      ·rw [if_pos c10] at H
       have c10b0 : decide (a1 < (l0.length : Int)) = true := decide_eq_true c10; clear c10
       by_cases c11 : a2 < (y151.length : Int)
       ·rw [if_pos c11] at H
        have c11b0:decide (a2 < (y151.length:Int))=true:=decide_eq_true c11;clear c11;obtain ⟨y157,hy157⟩:∃ y_:List (S32),y_=(y155.set (a2:Int).toNat (⟨(rd_T32 l0 a1).f0,(rd_T32 l0 a1).f1⟩:S32)):=⟨_,rfl⟩
        replace H:(some y157)=some r:=by first|(rw [hy157];with_reducible exact H)|(have H2_:=(Option.bind_some _ _).symm.trans H;rw [hy157];with_reducible exact H2_)|(have H2_:=(Option.bind_some _ _).symm.trans H;with_reducible exact H2_)|with_reducible exact H|(rw [hy157];exact H)|exact H
        have Ny157 := D hy157; clear hy157; obtain rfl := Option.some.inj H; go_enter Try.func55, Try.ntmps55
        go_wp2_with (first|((with_reducible refine gate_dst (N:=8) rfl ?_);refine Kd.R_lit k32 _ 32 ?hg (N:=8) ?hd (xs:=([]:List (S32))) (inner:=[]) (ok:=fun _=>True) (okp:=fun _=>True) ?hr ?hp (fun _ hk=>hk) trivial (Below.refl _ _) (Nat.le_refl _) (by simp) ?_;(case hd=>rfl);(case hg=>rfl);(case hr=>first|(go_simp;done)|(go_simp;rfl));(case hp=>exact (Reps.none _ _));intro v149 w13 ho14 hb hg_ hnew_;clear hg_ hnew_;(first|rw [← Ny148.out] at ho14|(simp only [Int.reduceToNat] at ho14;rw [← Ny148.out] at ho14));have n_:=an_ (Kd.R_lower ho14 (below_size (pB_ HB.out)))<|D (below_step (pB_ HB.out) hb);clear HB;obtain ⟨HO150,HB⟩:=n_;clear hb ho14)|((with_reducible refine gate_builtin (b:=.append) (xs:=#[.tmp 8,.tmp 9]) rfl ?_);at_builtin;refine Kd.R_append_rows k32 (w0:=w) w.heap.size rfl (.tmp 8) (.tmp 9) 24 32 (.agg #[(I L 0),(I L 0)]) 16 rfl Try.underlying24 info32 rfl (by decide) (by omega) v149 y148 l0 _ _ _ (fun _=>True) (fun _=>False) rfl rfl ?aO ?aR (fun _ _ h=>h) (fun _ h=>h.elim) ?aF ?aB ?aS ?aL ?_;(case aR=>exact pC_ (Kd.C_below HR0.out HB.out));(case aB=>exact (pB_ HB.out));(case aF=>exact (fun _ _=>trivial));(case aO=>exact (pR_ HO150.out));(case aS=>exact (below_size (pB_ HB.out)));(case aL=>have:=LMc4.out;omega);intro v152 w15 ho hb hg hat;rw [← Ny151.out] at ho;have n_:=an_ (hb)<|D (ho);clear HB HO150;obtain ⟨HB,HO153⟩:=n_;clear ho hb hg hat;have p154:0≤(a2:Int):=od_ Z22;have q154:a2 < (l0.length:Int):=od_ Z22;obtain ⟨ad154,e154,hx154_0,hx154_1⟩:=at_T32 HR0.out a2 p154 q154;cases e154;replace hx154_0:=rc_ HB.out hx154_0;replace hx154_1:=rc_ HB.out hx154_1;replace p154:=eq_true p154;replace q154:=eq_true q154;have p9:0≤(a1:Int):=od_ Z22;have q9:(a1:Int) < ((y151.length:Int):Int):=od_ Z22;obtain ⟨go9,co9,eo9,gb9,gl9,cl9,HG9⟩:=Kd.R_form HO153.out (by omega);(first|cases eo9|(injection eo9 with ea_ en_ ec_;(first|subst ea_|(injection ea_ with ea_;subst ea_));subst ec_;clear en_));have GB9:=D gb9;have GG9:=D HG9;clear gb9 gl9 HG9;obtain ⟨ce9,hcl9,hM9,hcc9,hfr9⟩:=Kd.R_elem HO153.out z32 (a1:Int) p9 q9;obtain rfl:=k32_openM hM9;have hx9_0:w15.cell? ⟨go9,(a1:Int).toNat * 2,none⟩=some (I L ((rd_T32 y151 a1).f0)):=hcc9 0 _ rfl;have hx9_1:w15.cell? ⟨go9,(a1:Int).toNat * 2 + 1,none⟩=some (I L ((rd_T32 y151 a1).f1)):=hcc9 1 _ rfl;have hf9_0:w15.frozen? ⟨go9,(a1:Int).toNat * 2,none⟩=false:=hfr9 0;have hf9_1:w15.frozen? ⟨go9,(a1:Int).toNat * 2 + 1,none⟩=false:=hfr9 1;clear hcl9 hcc9 hfr9 hM9;replace p9:=eq_true p9;replace q9:=eq_true q9;have HX16:=D (show Kd.R k32 32 w15 w.heap.size (fun _=>True) (Y (some ⟨go9,0,none⟩) y151.length co9) y151 from (pR_ HO153.out));obtain ⟨ce16,hcl16,hM16,hcc16,hfr16⟩:=Kd.R_elem HX16.out z32 (a1:Int) (od_ Z22) (by have h_:(a1:Int) < ((y151.length:Int):Int):=od_ Z22;first|exact h_|(have e_:=(Kd.R_reads' HO153.out).1;omega)|simpa using h_);obtain rfl:=k32_openM hM16;have HP16:=Kd.R_seg HX16.out (a1:Int) (od_ Z22) (by have h_:(a1:Int) < ((y151.length:Int):Int):=od_ Z22;first|exact h_|(have e_:=(Kd.R_reads' HO153.out).1;omega)|simpa using h_) (seg:=[I L ((rd_T32 l0 a2).f0),I L ((rd_T32 l0 a2).f1)]) (j:=0) hcl16 hcc16 (show 2≤2 from by decide) (x':=(⟨(rd_T32 l0 a2).f0,(rd_T32 l0 a2).f1⟩:S32)) (k32_mkM _ _ _ (⟨(rd_T32 l0 a2).f0,(rd_T32 l0 a2).f1⟩:S32) ) (fun _ hk=>hk);have hx16_0:=hcc16 0 _ rfl;(try simp only [show (k32).sz=2 from rfl,Nat.mul_one,Nat.add_zero] at hx16_0);have hf16_0:=hfr16 0;(try simp only [show (k32).sz=2 from rfl,Nat.mul_one,Nat.add_zero] at hf16_0);have hx16_1:=hcc16 1 _ rfl;(try simp only [show (k32).sz=2 from rfl,Nat.mul_one,Nat.add_zero] at hx16_1);have hf16_1:=hfr16 1;(try simp only [show (k32).sz=2 from rfl,Nat.mul_one,Nat.add_zero] at hf16_1);clear hcl16 hcc16 hfr16 hM16)|((with_reducible refine gate_store (t:=32) (p:=17) rfl ?_);refine store_event (t:=32) (p:=17) (v:=?vo_w17) (w1:=((w15.setCell ⟨go9,(a1:Int).toNat * 2,none⟩ (I L ((rd_T32 l0 a2).f0))).setCell ⟨go9,(a1:Int).toNat * 2 + 1,none⟩ (I L ((rd_T32 l0 a2).f1)))) ?hg ?ho ?hn ?hr ?_;(case ho=>rfl);(case hg=>rfl);(case hn=>rfl);(case hr=>first|(go_simp;done)|(go_simp;rfl));intro w17 hw;have hg:w15.grownBy w17 (some go9):=(by rw [hw];exact HP16.2);have hp_:Kd.R k32 32 w17 w.heap.size (fun _=>True) (Y (some ⟨go9,0,none⟩) y151.length co9) y155:=(by rw [hw,Ny155.out];exact HP16.1);clear HP16;have n_:=an_ (hp_)<|D (by rw [hw];exact below_set (below_set (HB.out) GB9.out) GB9.out:Below w.heap.size w w17);clear HO153 HB;obtain ⟨HO153,HB⟩:=n_;clear hg hw hp_;have p156:0≤(a1:Int):=od_ Z22;have q156:a1 < (l0.length:Int):=od_ Z22;obtain ⟨ad156,e156,hx156_0,hx156_1⟩:=at_T32 HR0.out a1 p156 q156;obtain rfl:ad154=ad156:=(by injection e156);replace hx156_0:=rc_ HB.out hx156_0;replace hx156_1:=rc_ HB.out hx156_1;replace p156:=eq_true p156;replace q156:=eq_true q156;have p12:0≤(a2:Int):=od_ Z22;have q12:(a2:Int) < ((y151.length:Int):Int):=od_ Z22;obtain ⟨ce12,hcl12,hM12,hcc12,hfr12⟩:=Kd.R_elem HO153.out z32 (a2:Int) p12 q12;obtain rfl:=k32_openM hM12;have hx12_0:w17.cell? ⟨go9,(a2:Int).toNat * 2,none⟩=some (I L ((rd_T32 y155 a2).f0)):=hcc12 0 _ rfl;have hx12_1:w17.cell? ⟨go9,(a2:Int).toNat * 2 + 1,none⟩=some (I L ((rd_T32 y155 a2).f1)):=hcc12 1 _ rfl;have hf12_0:w17.frozen? ⟨go9,(a2:Int).toNat * 2,none⟩=false:=hfr12 0;have hf12_1:w17.frozen? ⟨go9,(a2:Int).toNat * 2 + 1,none⟩=false:=hfr12 1;clear hcl12 hcc12 hfr12 hM12;replace p12:=eq_true p12;replace q12:=eq_true q12;have HX18:=D (show Kd.R k32 32 w17 w.heap.size (fun _=>True) (Y (some ⟨go9,0,none⟩) y151.length co9) y155 from (pR_ HO153.out));obtain ⟨ce18,hcl18,hM18,hcc18,hfr18⟩:=Kd.R_elem HX18.out z32 (a2:Int) (od_ Z22) (by have h_:(a2:Int) < ((y151.length:Int):Int):=od_ Z22;first|exact h_|(have e_:=(Kd.R_reads' HO153.out).1;omega)|simpa using h_);obtain rfl:=k32_openM hM18;have HP18:=Kd.R_seg HX18.out (a2:Int) (od_ Z22) (by have h_:(a2:Int) < ((y151.length:Int):Int):=od_ Z22;first|exact h_|(have e_:=(Kd.R_reads' HO153.out).1;omega)|simpa using h_) (seg:=[I L ((rd_T32 l0 a1).f0),I L ((rd_T32 l0 a1).f1)]) (j:=0) hcl18 hcc18 (show 2≤2 from by decide) (x':=(⟨(rd_T32 l0 a1).f0,(rd_T32 l0 a1).f1⟩:S32)) (k32_mkM _ _ _ (⟨(rd_T32 l0 a1).f0,(rd_T32 l0 a1).f1⟩:S32) ) (fun _ hk=>hk);have hx18_0:=hcc18 0 _ rfl;(try simp only [show (k32).sz=2 from rfl,Nat.mul_one,Nat.add_zero] at hx18_0);have hf18_0:=hfr18 0;(try simp only [show (k32).sz=2 from rfl,Nat.mul_one,Nat.add_zero] at hf18_0);have hx18_1:=hcc18 1 _ rfl;(try simp only [show (k32).sz=2 from rfl,Nat.mul_one,Nat.add_zero] at hx18_1);have hf18_1:=hfr18 1;(try simp only [show (k32).sz=2 from rfl,Nat.mul_one,Nat.add_zero] at hf18_1);clear hcl18 hcc18 hfr18 hM18)|((with_reducible refine gate_store (t:=32) (p:=24) rfl ?_);refine store_event (t:=32) (p:=24) (v:=?vo_w19) (w1:=((w17.setCell ⟨go9,(a2:Int).toNat * 2,none⟩ (I L ((rd_T32 l0 a1).f0))).setCell ⟨go9,(a2:Int).toNat * 2 + 1,none⟩ (I L ((rd_T32 l0 a1).f1)))) ?hg ?ho ?hn ?hr ?_;(case ho=>rfl);(case hg=>rfl);(case hn=>rfl);(case hr=>first|(go_simp;done)|(go_simp;rfl));intro w19 hw;have hg:w17.grownBy w19 (some go9):=(by rw [hw];exact HP18.2);have hp_:Kd.R k32 32 w19 w.heap.size (fun _=>True) (Y (some ⟨go9,0,none⟩) y151.length co9) y157:=(by rw [hw,Ny157.out];exact HP18.1);clear HP18;have n_:=an_ (hp_)<|D (by rw [hw];exact below_set (below_set (HB.out) GB9.out) GB9.out:Below w.heap.size w w19);clear HO153 HB;obtain ⟨HO153,HB⟩:=n_;clear hg hw hp_))
        go_ret;exact ⟨_,er_,by (with_reducible repeat (first|apply Kd.R_alloc|apply Kd.R_drewN|apply Kd.R_drew));exact HO153.out,pB_ HB.out⟩
       ·rw [if_neg c11] at H
        exact absurd H (by simp)
      ·rw [if_neg c10] at H
       exact absurd H (by simp)
     ·rw [if_neg c8] at H
      exact absurd H (by simp)
    ·rw [if_neg c7] at H
     exact absurd H (by simp)
   ·rw [if_neg c6] at H
    exact absurd H (by simp)
  ·rw [if_neg c5] at H
   exact absurd H (by simp)
 ·rw [if_neg c4] at H
  exact absurd H (by simp)

end Go.Proofs.Ytcindcakncngnaa.PFnHeapSorts
