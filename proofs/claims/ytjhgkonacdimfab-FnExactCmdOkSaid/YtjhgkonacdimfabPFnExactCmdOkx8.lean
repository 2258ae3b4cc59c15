-- by a program of this session's, over the kit's words
import Derived.Test.YtjhgkonacdimfabPZFnExactCmdOk
import Derived.Test.YtjhgkonacdimfabPFnExactCmdOkx0
import Derived.Test.YtjhgkonacdimfabPFnExactCmdOkx2
namespace Go.Proofs.Ytjhgkonacdimfab.PFnExactCmdOk
open Go.RowKit Go.Proofs.YtjhgkonacdimfabW.PrintWords Go.Proofs.YtjhgkonacdimfabW.PrintLast Go.Proofs.YtjhgkonacdimfabW.PrintMore Go.Proofs.YtjhgkonacdimfabV Go.Proofs.Ytjhgkonacdimfab.ZFnExactCmdOk
open Go.Value renaming int → I, slice → Y
open Go.IntKind renaming i64 → L
open Aside0 renaming mk → D
open Option renaming bind_eq_some_iff → bs_
attribute [local go_sem] max2_int min2_int max_two min_two max_three min_three max_four min_four   -- for this text's walks alone
set_option linter.unusedVariables false
set_option linter.unusedSimpArgs false

attribute [local go_sem high] eqA37
/-! ### spec_l03Any: function 41 -/
def spec_l03Any.f (a0_0 a0_1 a0_2 a0_3 a0_4 a0_5 : Int) : Option (Bool) := some ((a0_0 == 0 && (a0_1 == 0 && (a0_2 == 0 && (a0_3 == 0 && (a0_4 == 0))))) && (a0_5 == 0))
set_option maxHeartbeats 8000000 in
set_option maxRecDepth 100000 in
theorem spec_l03Any.calls (a0_0 a0_1 a0_2 a0_3 a0_4 a0_5 : Int) (r : Bool) (w : World) (h : spec_l03Any.f a0_0 a0_1 a0_2 a0_3 a0_4 a0_5 = some r) :
  Calls Try.prog 41 #[.agg #[I L a0_0, I L a0_1, I L a0_2, I L a0_3, I L a0_4, I L a0_5]] w fun e w' => e = .returned (.bool r) ∧ Below w.heap.size w w' := by
 have hu37 := Try.underlying37
 have HB := D (Below.refl w.heap.size w)
 have H : (some ((a0_0 == 0 && (a0_1 == 0 && (a0_2 == 0 && (a0_3 == 0 && (a0_4 == 0))))) && (a0_5 == 0))) = some r := h
 clear h
 obtain rfl := Option.some.inj H
 go_enter Try.func41, Try.ntmps41
 go_wp2_with (first|((with_reducible refine gate_dst (N:=1) rfl ?_);refine bx_ (N:=1) (cs:=#[I L a0_0,I L a0_1,I L a0_2,I L a0_3,I L a0_4,I L a0_5]) (t:=37) ?_;intro gb104 hg w2 hbox hb;have n_:=an_ (below_step (pB_ HB.out) hb)<|an_ (hbox)<|an_ (bg_ hg (pB_ HB.out):w.heap.size≤gb104)<|D (bg_ hg (pB_ HB.out):w.heap.size≤gb104);clear HB;obtain ⟨HB,BK104,GW104,GE104⟩:=n_;clear hb hbox hg;have hcz3_0:=cells6 BK104.out))
 go_ret
 exact ⟨er_, pB_ HB.out⟩

/-! ### spec_l03Half: function 55 -/
def spec_l03Half.f (a0 : Int) : Option (Bool) := if a0 ≥ 0 then (some (decide (a0 ≤ 4294967295))) else (some false)
set_option maxHeartbeats 8000000 in
set_option maxRecDepth 100000 in
theorem spec_l03Half.calls (a0 : Int) (r : Bool) (w : World) (h : spec_l03Half.f a0 = some r) :
  Calls Try.prog 55 #[I L a0] w fun e w' => e = .returned (.bool r) ∧ Drawn0 w w' := by
 have H : (if a0 ≥ 0 then (some (decide (a0 ≤ 4294967295))) else (some false)) = some r := h
 clear h
 by_cases c2 : a0 ≥ 0
 ·rw [if_pos c2] at H
  have c2b0 : decide (0 ≤ a0) = true := decide_eq_true c2; clear c2; obtain rfl := Option.some.inj H; go_enter Try.func55, Try.ntmps55
  go_wp2
  go_ret; exact ⟨by first | rfl | (simp; done) | (simp [*]; done), by repeat (first | exact Drawn0.refl _ | apply Drawn0.step)⟩
 ·rw [if_neg c2] at H
  have c2b0 : decide (0 ≤ a0) = false := decide_eq_false c2; clear c2; obtain rfl := Option.some.inj H; go_enter Try.func55, Try.ntmps55
  go_wp2
  go_ret; exact ⟨by first | rfl | (simp; done) | (simp [*]; done), by repeat (first | exact Drawn0.refl _ | apply Drawn0.step)⟩

/-! ### spec_AddrOk: function 42 -/
def spec_AddrOk.f (a0_0 a0_1 a0_2 a0_3 a0_4 : Int) : Option (Bool) := if a0_0 = 4 then (if a0_1 = 0 then (if a0_2 = 0 then (if a0_3 = 0 then ((spec_l03Half.f a0_4).bind fun t106 => (some t106)) else (some false)) else (some false)) else (some false)) else (if a0_0 = 6 then ((spec_l03Half.f a0_1).bind fun t107 => (if t107 = true then ((spec_l03Half.f a0_2).bind fun t108 => (if t108 = true then ((spec_l03Half.f a0_3).bind fun t109 => (if t109 = true then ((spec_l03Half.f a0_4).bind fun t110 => (some t110)) else (some false))) else (some false))) else (some false))) else (some false))
set_option maxHeartbeats 8000000 in
set_option maxRecDepth 100000 in
theorem spec_AddrOk.calls (a0_0 a0_1 a0_2 a0_3 a0_4 : Int) (r : Bool) (w : World) (h : spec_AddrOk.f a0_0 a0_1 a0_2 a0_3 a0_4 = some r) :
  Calls Try.prog 42 #[.agg #[I L a0_0, I L a0_1, I L a0_2, I L a0_3, I L a0_4]] w fun e w' => e = .returned (.bool r) ∧ Below w.heap.size w w' := by
 have hu35 := Try.underlying35
 have HB := D (Below.refl w.heap.size w)
 have H:(if a0_0=4 then (if a0_1=0 then (if a0_2=0 then (if a0_3=0 then ((spec_l03Half.f a0_4).bind fun t106=>(some t106)) else (some false)) else (some false)) else (some false)) else (if a0_0=6 then ((spec_l03Half.f a0_1).bind fun t107=>(if t107=true then ((spec_l03Half.f a0_2).bind fun t108=>(if t108=true then ((spec_l03Half.f a0_3).bind fun t109=>(if t109=true then ((spec_l03Half.f a0_4).bind fun t110=>(some t110)) else (some false))) else (some false))) else (some false))) else (some false)))=some r:=h
 clear h
 have HU2 := D H
 clear H
 go_enter Try.func42, Try.ntmps42
 go_upto_if 5 with (first|((with_reducible refine gate_dst (N:=1) rfl ?_);refine bx_ (N:=1) (cs:=#[I L a0_0,I L a0_1,I L a0_2,I L a0_3,I L a0_4]) (t:=35) ?_;intro gb105 hg w3 hbox hb;have n_:=an_ (below_step (pB_ HB.out) hb)<|an_ (hbox)<|an_ (bg_ hg (pB_ HB.out):w.heap.size≤gb105)<|D (bg_ hg (pB_ HB.out):w.heap.size≤gb105);clear HB;obtain ⟨HB,BK105,GW105,GE105⟩:=n_;clear hb hbox hg;have hcz4_0:=cells5 BK105.out))
 have H := HU2.out
 clear HU2
 by_cases c5 : a0_0 = 4
 ·rw [if_pos c5] at H
  have c5b0:(a0_0 == 4)=true:=beq_iff_eq.mpr c5;have c5b1:(a0_0 != 4)=false:=bne_eq_false_iff_eq.mpr c5;clear c5;refine rw_ c5b0 ?_
  by_cases c6 : a0_1 = 0
  ·rw [if_pos c6] at H
   have c6b0 : (a0_1 == 0) = true := beq_iff_eq.mpr c6; have c6b1 : (a0_1 != 0) = false := bne_eq_false_iff_eq.mpr c6; clear c6
   by_cases c7 : a0_2 = 0
   ·rw [if_pos c7] at H
    have c7b0 : (a0_2 == 0) = true := beq_iff_eq.mpr c7; have c7b1 : (a0_2 != 0) = false := bne_eq_false_iff_eq.mpr c7; clear c7
    by_cases c8 : a0_3 = 0
    ·rw [if_pos c8] at H
     have c8b0:(a0_3 == 0)=true:=beq_iff_eq.mpr c8;have c8b1:(a0_3 != 0)=false:=bne_eq_false_iff_eq.mpr c8;clear c8;obtain ⟨t106,A90,H⟩:=bs_.mp H;(try dsimp only at H);have A9:=D A90;clear A90;obtain rfl:=Option.some.inj H;have hcz10_0:=cells5 BK105.out
     go_wp2_with (first | (go_at_call 55; (with_reducible refine (spec_l03Half.calls a0_4 t106 _ A9.out).mono ?_); rintro e w' ⟨rfl, ⟨nd, rfl⟩⟩))
     go_ret; exact ⟨er_, pB_ HB.out⟩
    ·rw [if_neg c8] at H
     have c8b0:(a0_3 == 0)=false:=beq_eq_false_iff_ne.mpr c8;have c8b1:(a0_3 != 0)=true:=bne_iff_ne.mpr c8;obtain rfl:=Option.some.inj H;have hcz11_0:=cells5 BK105.out
     go_wp2
     go_ret; exact ⟨er_, pB_ HB.out⟩
   ·rw [if_neg c7] at H
    have c7b0:(a0_2 == 0)=false:=beq_eq_false_iff_ne.mpr c7;have c7b1:(a0_2 != 0)=true:=bne_iff_ne.mpr c7;obtain rfl:=Option.some.inj H;have hcz12_0:=cells5 BK105.out
    go_wp2
    go_ret; exact ⟨er_, pB_ HB.out⟩
  ·rw [if_neg c6] at H
   have c6b0:(a0_1 == 0)=false:=beq_eq_false_iff_ne.mpr c6;have c6b1:(a0_1 != 0)=true:=bne_iff_ne.mpr c6;obtain rfl:=Option.some.inj H;have hcz13_0:=cells5 BK105.out
   go_wp2
   go_ret; exact ⟨er_, pB_ HB.out⟩
 ·rw [if_neg c5] at H
  have c5b0:(a0_0 == 4)=false:=beq_eq_false_iff_ne.mpr c5;have c5b1:(a0_0 != 4)=true:=bne_iff_ne.mpr c5;refine rw_ c5b0 ?_
  by_cases c14 : a0_0 = 6
  ·rw [if_pos c14] at H
   have c14b0:(a0_0 == 6)=true:=beq_iff_eq.mpr c14;have c14b1:(a0_0 != 6)=false:=bne_eq_false_iff_eq.mpr c14;clear c14;obtain ⟨t107,A150,H⟩:=bs_.mp H;(try dsimp only at H);have A15:=D A150;clear A150
   by_cases c16 : t107 = true
   ·subst c16
    rw [if_pos rfl] at H; obtain ⟨t108, A170, H⟩ := bs_.mp H; (try dsimp only at H); have A17 := D A170; clear A170
    by_cases c18 : t108 = true
    ·subst c18
     rw [if_pos rfl] at H; obtain ⟨t109, A190, H⟩ := bs_.mp H; (try dsimp only at H); have A19 := D A190; clear A190
     by_cases c20 : t109 = true
     ·subst c20
      rw [if_pos rfl] at H;obtain ⟨t110,A210,H⟩:=bs_.mp H;(try dsimp only at H);have A21:=D A210;clear A210;obtain rfl:=Option.some.inj H;have hcz22_0:=cells5 BK105.out
      go_wp2_with (first|(go_at_call 55;(with_reducible refine (spec_l03Half.calls a0_1 true _ A15.out).mono ?_);rintro e w' ⟨rfl,⟨nd,rfl⟩⟩)|(go_at_call 55;(with_reducible refine (spec_l03Half.calls a0_2 true _ A17.out).mono ?_);rintro e w' ⟨rfl,⟨nd,rfl⟩⟩)|(go_at_call 55;(with_reducible refine (spec_l03Half.calls a0_3 true _ A19.out).mono ?_);rintro e w' ⟨rfl,⟨nd,rfl⟩⟩)|(go_at_call 55;(with_reducible refine (spec_l03Half.calls a0_4 t110 _ A21.out).mono ?_);rintro e w' ⟨rfl,⟨nd,rfl⟩⟩))
      go_ret; exact ⟨er_, pB_ HB.out⟩
     ·replace c20 := Bool.eq_false_iff.mpr c20
      subst c20;rw [if_neg (show ¬ (false=true) by decide)] at H;obtain rfl:=Option.some.inj H;have hcz23_0:=cells5 BK105.out
      go_wp2_with (first|(go_at_call 55;(with_reducible refine (spec_l03Half.calls a0_1 true _ A15.out).mono ?_);rintro e w' ⟨rfl,⟨nd,rfl⟩⟩)|(go_at_call 55;(with_reducible refine (spec_l03Half.calls a0_2 true _ A17.out).mono ?_);rintro e w' ⟨rfl,⟨nd,rfl⟩⟩)|(go_at_call 55;(with_reducible refine (spec_l03Half.calls a0_3 false _ A19.out).mono ?_);rintro e w' ⟨rfl,⟨nd,rfl⟩⟩))
      go_ret; exact ⟨er_, pB_ HB.out⟩
    ·replace c18 := Bool.eq_false_iff.mpr c18
     subst c18;rw [if_neg (show ¬ (false=true) by decide)] at H;obtain rfl:=Option.some.inj H;have hcz24_0:=cells5 BK105.out
     go_wp2_with (first|(go_at_call 55;(with_reducible refine (spec_l03Half.calls a0_1 true _ A15.out).mono ?_);rintro e w' ⟨rfl,⟨nd,rfl⟩⟩)|(go_at_call 55;(with_reducible refine (spec_l03Half.calls a0_2 false _ A17.out).mono ?_);rintro e w' ⟨rfl,⟨nd,rfl⟩⟩))
     go_ret; exact ⟨er_, pB_ HB.out⟩
   ·replace c16 := Bool.eq_false_iff.mpr c16
    subst c16;rw [if_neg (show ¬ (false=true) by decide)] at H;obtain rfl:=Option.some.inj H;have hcz25_0:=cells5 BK105.out
    go_wp2_with (first | (go_at_call 55; (with_reducible refine (spec_l03Half.calls a0_1 false _ A15.out).mono ?_); rintro e w' ⟨rfl, ⟨nd, rfl⟩⟩))
    go_ret; exact ⟨er_, pB_ HB.out⟩
  ·rw [if_neg c14] at H
   have c14b0:(a0_0 == 6)=false:=beq_eq_false_iff_ne.mpr c14;have c14b1:(a0_0 != 6)=true:=bne_iff_ne.mpr c14;obtain rfl:=Option.some.inj H;have hcz26_0:=cells5 BK105.out
   go_wp2
   go_ret; exact ⟨er_, pB_ HB.out⟩

/-! ### spec_l03Bits: function 43 -/
def spec_l03Bits.f (a0_0 a0_1 a0_2 a0_3 a0_4 : Int) : Option (Int) := if a0_0 = 4 then (some 32) else (some 128)
set_option maxHeartbeats 8000000 in
set_option maxRecDepth 100000 in
theorem spec_l03Bits.calls (a0_0 a0_1 a0_2 a0_3 a0_4 r : Int) (w : World) (h : spec_l03Bits.f a0_0 a0_1 a0_2 a0_3 a0_4 = some r) :
  Calls Try.prog 43 #[.agg #[I L a0_0, I L a0_1, I L a0_2, I L a0_3, I L a0_4]] w fun e w' => e = .returned (I L r) ∧ Below w.heap.size w w' := by
 have hu35 := Try.underlying35
 have HB := D (Below.refl w.heap.size w)
 have H : (if a0_0 = 4 then (some 32) else (some 128)) = some r := h
 clear h
 have HU2 := D H
 clear H
 go_enter Try.func43, Try.ntmps43
 go_upto_if 5 with (first|((with_reducible refine gate_dst (N:=1) rfl ?_);refine bx_ (N:=1) (cs:=#[I L a0_0,I L a0_1,I L a0_2,I L a0_3,I L a0_4]) (t:=35) ?_;intro gb111 hg w3 hbox hb;have n_:=an_ (below_step (pB_ HB.out) hb)<|an_ (hbox)<|an_ (bg_ hg (pB_ HB.out):w.heap.size≤gb111)<|D (bg_ hg (pB_ HB.out):w.heap.size≤gb111);clear HB;obtain ⟨HB,BK111,GW111,GE111⟩:=n_;clear hb hbox hg;have hcz4_0:=cells5 BK111.out))
 have H := HU2.out
 clear HU2
 by_cases c5 : a0_0 = 4
 ·rw [if_pos c5] at H
  have c5b0:(a0_0 == 4)=true:=beq_iff_eq.mpr c5;have c5b1:(a0_0 != 4)=false:=bne_eq_false_iff_eq.mpr c5;clear c5;refine rw_ c5b0 ?_;obtain rfl:=Option.some.inj H
  go_wp2
  go_ret; exact ⟨er_, pB_ HB.out⟩
 ·rw [if_neg c5] at H
  have c5b0:(a0_0 == 4)=false:=beq_eq_false_iff_ne.mpr c5;have c5b1:(a0_0 != 4)=true:=bne_iff_ne.mpr c5;refine rw_ c5b0 ?_;obtain rfl:=Option.some.inj H
  go_wp2
  go_ret; exact ⟨er_, pB_ HB.out⟩

/-! ### spec_l01Low: function 67 -/
def spec_l01Low.f (a0 a1 : Int) : Option (Int) := if a1 = 0 then (none) else (if (Int.tmod a0 a1) < 0 then (some (wrap64 ((Int.tmod a0 a1) + a1))) else (some (Int.tmod a0 a1)))
set_option maxHeartbeats 8000000 in
set_option maxRecDepth 100000 in
theorem spec_l01Low.calls (a0 a1 r : Int) (w : World) (h : spec_l01Low.f a0 a1 = some r) :
  Calls Try.prog 67 #[I L a0, I L a1] w fun e w' => e = .returned (I L r) ∧ Drawn0 w w' := by
 have H : (if a1 = 0 then (none) else (if (Int.tmod a0 a1) < 0 then (some (wrap64 ((Int.tmod a0 a1) + a1))) else (some (Int.tmod a0 a1)))) = some r := h
 clear h
 by_cases c3 : a1 = 0
 ·rw [if_pos c3] at H
  exact absurd H (by simp)
 ·rw [if_neg c3] at H
  have c3b0 : (a1 == 0) = false := beq_eq_false_iff_ne.mpr c3; have c3b1 : (a1 != 0) = true := bne_iff_ne.mpr c3
  by_cases c4 : (Int.tmod a0 a1) < 0
  ·rw [if_pos c4] at H
   have c4b0 : decide ((Int.tmod a0 a1) < 0) = true := decide_eq_true c4; clear c4; obtain rfl := Option.some.inj H; go_enter Try.func67, Try.ntmps67
   go_wp2
   go_ret; exact ⟨by first | rfl | (simp; done) | (simp [*]; done), by repeat (first | exact Drawn0.refl _ | apply Drawn0.step)⟩
  ·rw [if_neg c4] at H
   have c4b0 : decide ((Int.tmod a0 a1) < 0) = false := decide_eq_false c4; clear c4; obtain rfl := Option.some.inj H; go_enter Try.func67, Try.ntmps67
   go_wp2
   go_ret; exact ⟨by first | rfl | (simp; done) | (simp [*]; done), by repeat (first | exact Drawn0.refl _ | apply Drawn0.step)⟩

/-! ### spec_Put16: function 68 -/
def spec_Put16.f (a0 : Int) : Option (List Int) := (spec_l01Low.f a0 65536).bind fun t112 => (some (([(wrap64 (Int.tdiv t112 256)) % 256, (Int.tmod t112 256) % 256] : List Int)))
set_option maxHeartbeats 8000000 in
set_option maxRecDepth 100000 in
theorem spec_Put16.calls (a0 : Int) (r : List Int) (w : World) (h : spec_Put16.f a0 = some r) :
  Calls Try.prog 68 #[I L a0] w fun e w' => ∃ v0_ : Value, e = .returned (v0_) ∧ Kd.R (Kd.int .u8) 5 w' w.heap.size (fun _ => True) v0_ r ∧ Below w.heap.size w w' := by
 have HB := D (Below.refl w.heap.size w)
 have H : ((spec_l01Low.f a0 65536).bind fun t112 => (some (([(wrap64 (Int.tdiv t112 256)) % 256, (Int.tmod t112 256) % 256] : List Int)))) = some r := h
 clear h
 obtain ⟨t112, A20, H⟩ := bs_.mp H
 (try dsimp only at H)
 have A2 := D A20
 clear A20
 obtain ⟨y113, hy113⟩ : ∃ y_ : List Int, y_ = (([(wrap64 (Int.tdiv t112 256)) % 256, (Int.tmod t112 256) % 256] : List Int)) := ⟨_, rfl⟩
 replace H:(some y113)=some r:=by first|(rw [hy113];with_reducible exact H)|(have H2_:=(Option.bind_some _ _).symm.trans H;rw [hy113];with_reducible exact H2_)|(have H2_:=(Option.bind_some _ _).symm.trans H;with_reducible exact H2_)|with_reducible exact H|(rw [hy113];exact H)|exact H
 have Ny113 := D hy113
 clear hy113
 obtain rfl := Option.some.inj H
 go_enter Try.func68, Try.ntmps68
 go_wp2_with (first|((with_reducible refine gate_callee (f:=67) rfl ?_);refine goesL_ (some 5) rfl rfl Try.func67 (by kernel_rfl) rfl #[I L a0,I L 65536] rfl Z6 ?_;(with_reducible refine (spec_l01Low.calls a0 65536 t112 _ A2.out).mono ?_);rintro e w' ⟨rfl,⟨nd,rfl⟩⟩;refine ⟨_,rfl,?_⟩)|((with_reducible refine gate_dst (N:=12) rfl ?_);refine Kd.R_lit (Kd.int .u8) _ 5 ?hg (N:=12) ?hd (xs:=([(wrap64 (Int.tdiv t112 256)) % 256,(Int.tmod t112 256) % 256]:List Int)) (inner:=[.int .u8 ((wrap64 (Int.tdiv t112 256)) % 256),.int .u8 ((Int.tmod t112 256) % 256)]) (ok:=fun _=>True) (okp:=fun _=>True) ?hr ?hp (fun _ hk=>hk) trivial (Below.refl _ _) (Nat.le_refl _) (by simp) ?_;(case hd=>rfl);(case hg=>rfl);(case hr=>first|(go_simp;done)|(go_simp;rfl));(case hp=>exact (Reps.one (show Kd.M (Kd.int .u8) _ _ _ ((wrap64 (Int.tdiv t112 256)) % 256) [.int .u8 ((wrap64 (Int.tdiv t112 256)) % 256)] from rfl) (Reps.one (show Kd.M (Kd.int .u8) _ _ _ ((Int.tmod t112 256) % 256) [.int .u8 ((Int.tmod t112 256) % 256)] from rfl) (Reps.none _ _))));intro v114 w3 ho4 hb hg_ hnew_;clear hg_ hnew_;(first|rw [← Ny113.out] at ho4|(simp only [Int.reduceToNat] at ho4;rw [← Ny113.out] at ho4));have n_:=an_ (Kd.R_lower ho4 (below_size (pB_ HB.out)))<|D (below_step (pB_ HB.out) hb);clear HB;obtain ⟨HO115,HB⟩:=n_;clear hb ho4))
 go_ret
 exact ⟨_,er_,by (with_reducible repeat (first|apply Kd.R_alloc|apply Kd.R_drewN|apply Kd.R_drew));exact HO115.out,pB_ HB.out⟩

/-! ### spec_Put32: function 62 -/
def spec_Put32.f (a0 : Int) : Option (List Int) := (spec_l01Low.f a0 4294967296).bind fun t116 => ((spec_Put16.f (wrap64 (Int.tdiv t116 65536))).bind fun t117 => ((spec_Put16.f (Int.tmod t116 65536)).bind fun t120 => (if t117.length + t120.length < 140737488355328 then (some (t117 ++ t120)) else (none))))
set_option maxHeartbeats 8000000 in
set_option maxRecDepth 100000 in
theorem spec_Put32.calls (a0 : Int) (r : List Int) (w : World) (h : spec_Put32.f a0 = some r) :
  Calls Try.prog 62 #[I L a0] w fun e w' => ∃ v0_ : Value, e = .returned (v0_) ∧ Kd.R (Kd.int .u8) 5 w' w.heap.size (fun _ => True) v0_ r ∧ Below w.heap.size w w' := by
 have HB := D (Below.refl w.heap.size w)
 have H:((spec_l01Low.f a0 4294967296).bind fun t116=>((spec_Put16.f (wrap64 (Int.tdiv t116 65536))).bind fun t117=>((spec_Put16.f (Int.tmod t116 65536)).bind fun t120=>(if t117.length + t120.length < 140737488355328 then (some (t117 ++ t120)) else (none)))))=some r:=h
 clear h
 obtain ⟨t116, A20, H⟩ := bs_.mp H
 (try dsimp only at H)
 have A2 := D A20
 clear A20
 obtain ⟨t117, A30, H⟩ := bs_.mp H
 (try dsimp only at H)
 have A3 := D A30
 clear A30
 obtain ⟨t120, A40, H⟩ := bs_.mp H
 (try dsimp only at H)
 have A4 := D A40
 clear A40
 by_cases c5 : t117.length + t120.length < 140737488355328
 ·rw [if_pos c5] at H
  have LMc5 := D c5; clear c5; obtain ⟨y123, hy123⟩ : ∃ y_ : List Int, y_ = (t117 ++ t120) := ⟨_, rfl⟩
  replace H:(some y123)=some r:=by first|(rw [hy123];with_reducible exact H)|(have H2_:=(Option.bind_some _ _).symm.trans H;rw [hy123];with_reducible exact H2_)|(have H2_:=(Option.bind_some _ _).symm.trans H;with_reducible exact H2_)|with_reducible exact H|(rw [hy123];exact H)|exact H
  have Ny123 := D hy123; clear hy123; obtain rfl := Option.some.inj H; go_enter Try.func62, Try.ntmps62
  go_wp2_with (first|((with_reducible refine gate_callee (f:=67) rfl ?_);refine goesL_ (some 5) rfl rfl Try.func67 (by kernel_rfl) rfl #[I L a0,I L 4294967296] rfl Z6 ?_;(with_reducible refine (spec_l01Low.calls a0 4294967296 t116 _ A2.out).mono ?_);rintro e w' ⟨rfl,⟨nd,rfl⟩⟩;refine ⟨_,rfl,?_⟩)|((with_reducible refine gate_callee (f:=68) rfl ?_);refine goesL_ (some 8) rfl rfl Try.func68 (by kernel_rfl) rfl #[I L (wrap64 (Int.tdiv t116 65536))] rfl Z6 ?_;(with_reducible refine (spec_Put16.calls (wrap64 (Int.tdiv t116 65536)) t117 _ A3.out).mono ?_);rintro e w6 ⟨v118,rfl,ho0,hb⟩;refine ⟨_,rfl,?_⟩;have n_:=an_ (Kd.R_lower ho0 (below_size (pB_ HB.out)))<|D (below_step (pB_ HB.out) hb);clear HB;obtain ⟨HO119,HB⟩:=n_;(try clear hb);(try clear ho0))|((with_reducible refine gate_callee (f:=68) rfl ?_);refine goesL_ (some 11) rfl rfl Try.func68 (by kernel_rfl) rfl #[I L (Int.tmod t116 65536)] rfl Z6 ?_;(with_reducible refine (spec_Put16.calls (Int.tmod t116 65536) t120 _ A4.out).mono ?_);rintro e w7 ⟨v121,rfl,ho0,hb⟩;refine ⟨_,rfl,?_⟩;have n_:=an_ (Kd.R_elder' (pR_ HO119.out) (Kd.R_base ho0) hb)<|an_ (Kd.R_lower (nw_ ho0 (pR_ HO119.out)) (below_size (pB_ HB.out)))<|D (below_step (pB_ HB.out) hb);clear HO119 HB;obtain ⟨HO119,HO122,HB⟩:=n_;(try clear hb);(try clear ho0);obtain ⟨Ao9,co9,eo9⟩:=Kd.R_slice HO122.out;subst eo9)|((with_reducible refine gate_builtin (b:=.append) (xs:=#[.tmp 8,.tmp 11]) rfl ?_);at_builtin;refine Kd.R_append_rows (Kd.int .u8) (w0:=w) w.heap.size rfl (.tmp 8) (.tmp 11) 82 5 (.int .u8 0) 1 rfl Try.underlying82 info5 rfl (by decide) (by omega) v118 t117 t120 _ _ _ (fun k_=>some k_≠(Y Ao9 t120.length co9:Value).ownBlock) (fun _=>False) rfl rfl ?aO ?aR (fun _ _ h=>h) (fun _ h=>h.elim) ?aF ?aB ?aS ?aL ?_;(case aR=>exact pC_ ((Kd.R_reads' HO122.out).2.2));(case aB=>exact (pB_ HB.out));(case aF=>exact (fun k_ hk=>Kd.fresh' (Kd.R_lt (pR_ HO122.out)) k_ hk));(case aO=>exact (pR_ (Kd.R_mono HO119.out (fun _ hk=>hk.2))));(case aS=>exact (below_size (pB_ HB.out)));(case aL=>have:=LMc5.out;omega);intro v124 w8 ho hb hg hat;rw [← Ny123.out] at ho;have n_:=an_ (Kd.R_after (ok:=(fun _=>True)) (pR_ HO122.out) hg hat)<|an_ (hb)<|D (ho);clear HO122 HB HO119;obtain ⟨HO122,HB,HO125⟩:=n_;clear ho hb hg hat))
  go_ret;exact ⟨_,er_,by (with_reducible repeat (first|apply Kd.R_alloc|apply Kd.R_drewN|apply Kd.R_drew));exact Kd.R_mono HO125.out (fun _ hk=>trivial),pB_ HB.out⟩
 ·rw [if_neg c5] at H
  exact absurd H (by simp)

/-! ### spec_AddrBytes: function 56 -/
def spec_AddrBytes.f (a0_0 a0_1 a0_2 a0_3 a0_4 : Int) : Option (List Int) := (spec_AddrOk.f a0_0 a0_1 a0_2 a0_3 a0_4).bind fun t127 => (if t127 = true then (if a0_0 = 4 then ((spec_Put32.f a0_4).bind fun t128 => (some t128)) else ((spec_Put32.f a0_1).bind fun t131 => ((spec_Put32.f a0_2).bind fun t134 => (if t131.length + t134.length < 140737488355328 then ((some (t131 ++ t134 : List Int)).bind fun y137 => ((spec_Put32.f a0_3).bind fun t140 => (if y137.length + t140.length < 140737488355328 then ((some (y137 ++ t140 : List Int)).bind fun y143 => ((spec_Put32.f a0_4).bind fun t146 => (if y143.length + t146.length < 140737488355328 then (some (y143 ++ t146)) else (none)))) else (none)))) else (none))))) else (some ([] : List Int)))
def spec_AddrBytes.T5 : Bool × List (List Nat × List Nat) := (true, [([], []), ([0], [0]), ([1], [1]), ([], []), ([3], [3]), ([4, 2], [4]), ([2, 5, 5], [2, 5]), ([6, 6, 0, 1, 2, 3, 4, 5, 6], [6])])
def spec_AddrBytes.B5 : List Nat := [0, 1, 3, 0, 8, 31, 63, 127]
theorem spec_AddrBytes.tab5 : rtab .any (opsOf Try.f56 5) = spec_AddrBytes.T5 := by kernel_rfl
theorem spec_AddrBytes.bits5 : waitsOk spec_AddrBytes.T5.2 spec_AddrBytes.B5 = true := by kernel_rfl
def spec_AddrBytes.T6 : Bool × List (List Nat × List Nat) := (true, [([], []), ([], []), ([1], [1]), ([2], [2]), ([0, 3, 3], [0, 3]), ([], []), ([5], [5]), ([6, 4], [6]), ([4, 7, 7], [4, 7]), ([8, 8, 0, 1, 2, 3, 4, 5, 6, 7, 8], [8])])
def spec_AddrBytes.B6 : List Nat := [0, 0, 2, 6, 15, 0, 32, 127, 255, 511]
theorem spec_AddrBytes.tab6 : rtab .any (opsOf Try.f56 6) = spec_AddrBytes.T6 := by kernel_rfl
theorem spec_AddrBytes.bits6 : waitsOk spec_AddrBytes.T6.2 spec_AddrBytes.B6 = true := by kernel_rfl
set_option maxHeartbeats 8000000 in
set_option maxRecDepth 100000 in
theorem spec_AddrBytes.calls (a0_0 a0_1 a0_2 a0_3 a0_4 : Int) (r : List Int) (w : World) (h : spec_AddrBytes.f a0_0 a0_1 a0_2 a0_3 a0_4 = some r) :
  Calls Try.prog 56 #[.agg #[I L a0_0,I L a0_1,I L a0_2,I L a0_3,I L a0_4]] w fun e w'=>∃ v0_:Value,e=.returned (v0_)∧Kd.R (Kd.int .u8) 5 w' w.heap.size (fun _=>True) v0_ r∧Below w.heap.size w w':=by
 have hu35 := Try.underlying35
 have HB := D (Below.refl w.heap.size w)
 have H:((spec_AddrOk.f a0_0 a0_1 a0_2 a0_3 a0_4).bind fun Uc=>(if Uc=true then (if a0_0=4 then ((spec_Put32.f a0_4).bind fun Xc=>(some Xc)) else ((spec_Put32.f a0_1).bind fun Mb=>((spec_Put32.f a0_2).bind fun Jb=>(if Mb.length + Jb.length < 140737488355328 then ((some (Mb ++ Jb:List Int)).bind fun y137=>((spec_Put32.f a0_3).bind fun Ua=>(if y137.length + Ua.length < 140737488355328 then ((some (y137 ++ Ua:List Int)).bind fun y143=>((spec_Put32.f a0_4).bind fun Oa=>(if y143.length + Oa.length < 140737488355328 then (some (y143 ++ Oa)) else (none)))) else (none)))) else (none))))) else (some ([]:List Int))))=some r:=h
 clear h
 obtain ⟨Uc, A20, H⟩ := bs_.mp H
 (try dsimp only at H)
 have A2 := D A20
 clear A20
 have HU3 := D H
 clear H
 go_enter Try.func56, Try.ntmps56
 go_upto_if 6 with (first|((with_reducible refine gate_dst (N:=1) rfl ?_);refine bx_ (N:=1) (cs:=#[I L a0_0,I L a0_1,I L a0_2,I L a0_3,I L a0_4]) (t:=35) ?_;intro Ma hg w4 hbox hb;have n_:=an_ (below_step (pB_ HB.out) hb)<|an_ (hbox)<|an_ (bg_ hg (pB_ HB.out):w.heap.size≤Ma)<|D (bg_ hg (pB_ HB.out):w.heap.size≤Ma);clear HB;obtain ⟨HB,Ja,Me,Oe⟩:=n_;clear hb hbox hg;have Ue:=cells5 Ja.out)|((with_reducible refine gate_callee (f:=42) rfl ?_);refine goesL_ (some 5) rfl rfl Try.func42 (by kernel_rfl) rfl #[.agg #[I L a0_0,I L a0_1,I L a0_2,I L a0_3,I L a0_4]] rfl Z6 ?_;(with_reducible refine (spec_AddrOk.calls a0_0 a0_1 a0_2 a0_3 a0_4 Uc _ A2.out).mono ?_);rintro e w6 ⟨rfl,hb⟩;refine ⟨_,rfl,?_⟩;have n_:=an_ (blk_below (pk_ Ja.out) hb)<|D (below_step (pB_ HB.out) hb);clear Ja HB;obtain ⟨Ja,HB⟩:=n_;(try clear hb)))
 have H := HU3.out
 clear HU3
 by_cases c7 : Uc = true
 ·subst c7
  rw [if_pos rfl] at H
  by_cases c8 : a0_0 = 4
  ·rw [if_pos c8] at H
   have c8b0:(a0_0 == 4)=true:=beq_iff_eq.mpr c8;have c8b1:(a0_0 != 4)=false:=bne_eq_false_iff_eq.mpr c8;clear c8;refine rw_ c8b0 ?_;obtain ⟨Xc,A90,H⟩:=bs_.mp H;(try dsimp only at H);have A9:=D A90;clear A90;obtain rfl:=Option.some.inj H;have Mg:=cells5 Ja.out
   go_wp2_with (first|((with_reducible refine gate_callee (f:=62) rfl ?_);refine goesL_ (some 12) rfl rfl Try.func62 (by kernel_rfl) rfl #[I L a0_4] rfl Z6 ?_;(with_reducible refine (spec_Put32.calls a0_4 Xc _ A9.out).mono ?_);rintro e w11 ⟨Ji,rfl,ho0,hb⟩;refine ⟨_,rfl,?_⟩;have n_:=an_ (Kd.R_lower ho0 (below_size (pB_ HB.out)))<|an_ (blk_below (pk_ Ja.out) hb)<|D (below_step (pB_ HB.out) hb);clear Ja HB;obtain ⟨Od,Ja,HB⟩:=n_;(try clear hb);(try clear ho0)))
   go_ret;exact ⟨_,er_,by (with_reducible repeat (first|apply Kd.R_alloc|apply Kd.R_drewN|apply Kd.R_drew));exact Od.out,pB_ HB.out⟩
  ·rw [if_neg c8] at H
   have c8b0:(a0_0 == 4)=false:=beq_eq_false_iff_ne.mpr c8;have c8b1:(a0_0 != 4)=true:=bne_iff_ne.mpr c8;refine rw_ c8b0 ?_;obtain ⟨Mb,A120,H⟩:=bs_.mp H;(try dsimp only at H);have A12:=D A120;clear A120;obtain ⟨Jb,A130,H⟩:=bs_.mp H;(try dsimp only at H);have A13:=D A130;clear A130
   by_cases c14 : Mb.length + Jb.length < 140737488355328
   ·rw [if_pos c14] at H
    have LMc14 := D c14; clear c14; obtain ⟨y137, hy137⟩ : ∃ y_ : List Int, y_ = (Mb ++ Jb) := ⟨_, rfl⟩
    replace H:((spec_Put32.f a0_3).bind fun Ua=>(if y137.length + Ua.length < 140737488355328 then ((some (y137 ++ Ua:List Int)).bind fun y143=>((spec_Put32.f a0_4).bind fun Oa=>(if y143.length + Oa.length < 140737488355328 then (some (y143 ++ Oa)) else (none)))) else (none)))=some r:=by first|(rw [hy137];with_reducible exact H)|(have H2_:=(Option.bind_some _ _).symm.trans H;rw [hy137];with_reducible exact H2_)|(have H2_:=(Option.bind_some _ _).symm.trans H;with_reducible exact H2_)|with_reducible exact H|(rw [hy137];exact H)|exact H
    have Ny137 := D hy137; clear hy137; obtain ⟨Ua, A150, H⟩ := bs_.mp H; (try dsimp only at H); have A15 := D A150; clear A150
    by_cases c16 : y137.length + Ua.length < 140737488355328
    ·rw [if_pos c16] at H
     have LMc16 := D c16; clear c16; obtain ⟨y143, hy143⟩ : ∃ y_ : List Int, y_ = (y137 ++ Ua) := ⟨_, rfl⟩
     replace H:((spec_Put32.f a0_4).bind fun Oa=>(if y143.length + Oa.length < 140737488355328 then (some (y143 ++ Oa)) else (none)))=some r:=by first|(rw [hy143];with_reducible exact H)|(have H2_:=(Option.bind_some _ _).symm.trans H;rw [hy143];with_reducible exact H2_)|(have H2_:=(Option.bind_some _ _).symm.trans H;with_reducible exact H2_)|with_reducible exact H|(rw [hy143];exact H)|exact H
     have Ny143 := D hy143; clear hy143; obtain ⟨Oa, A170, H⟩ := bs_.mp H; (try dsimp only at H); have A17 := D A170; clear A170
     by_cases c18 : y143.length + Oa.length < 140737488355328
     ·rw [if_pos c18] at H
      have LMc18 := D c18; clear c18; obtain ⟨y149, hy149⟩ : ∃ y_ : List Int, y_ = (y143 ++ Oa) := ⟨_, rfl⟩
      replace H:(some y149)=some r:=by first|(rw [hy149];with_reducible exact H)|(have H2_:=(Option.bind_some _ _).symm.trans H;rw [hy149];with_reducible exact H2_)|(have H2_:=(Option.bind_some _ _).symm.trans H;with_reducible exact H2_)|with_reducible exact H|(rw [hy149];exact H)|exact H
      have Ny149 := D hy149; clear hy149; obtain rfl := Option.some.inj H; obtain ⟨Ki, Mi, Oi, Ui, Xi, Jj, Kj, Mj, Oj, Uj⟩ := cells5 Ja.out
      try go_wp2
      have n_ := an_ (blk_drew Ja.out) <| D (below_drew1 HB.out)
      clear Ja HB;obtain ⟨Ja,HB⟩:=n_;refine start_ (n:=8) (S:=fun w'=>w'.cell? ⟨Ma,0,none⟩=some (I L a0_0)∧w'.cell? ⟨Ma,1,none⟩=some (I L a0_1)∧w'.cell? ⟨Ma,2,none⟩=some (I L a0_2)∧w'.cell? ⟨Ma,3,none⟩=some (I L a0_3)∧w'.cell? ⟨Ma,4,none⟩=some (I L a0_4)) (ds:=[]) (bz 8 0) (by kernel_rfl) rfl (by kernel_rfl) (be5_ Ja.out) (fun hHeld=>?_);refine with_tabW spec_AddrBytes.tab5 spec_AddrBytes.bits5 (fun HT_ HW_=>?_);generalize w6.drew=w20 at Ja HB hHeld ⊢;refine pb_ 0 ?_;refine pb_ 3 ?_;refine tb_ 1 rfl rfl hHeld Z9 ?_;refine tb_ 4 rfl rfl hHeld Z9 ?_;refine oa_ 2 15 8 31 HT_ (fun K hK=>?_);refine goes_ Try.func62 (by kernel_rfl) rfl #[I L a0_1] (by rfl) rfl rfl Z6 ?_;with_reducible refine (spec_Put32.calls a0_1 Mb _ A12.out).mono ?_
      rintro e w21 ⟨Ud, rfl, ho0, hb⟩; refine ⟨_, rfl, ?_⟩
      have n_ := an_ (Kd.R_lower ho0 (below_size (pB_ HB.out))) <| an_ (blk_below (pk_ Ja.out) hb) <| D (below_step (pB_ HB.out) hb)
      clear Ja HB;obtain ⟨Ob,Ja,HB⟩:=n_;refine hK.out _ _ (be5_ Ja.out) (fun hHeld=>?_);clear hK K;refine nx_ (N:=some 15) ?_;refine oa_ 5 18 8 63 HT_ (fun K hK=>?_);refine goes_ Try.func62 (by kernel_rfl) rfl #[I L a0_2] (by rfl) rfl rfl Z6 ?_;with_reducible refine (spec_Put32.calls a0_2 Jb _ A13.out).mono ?_
      rintro e w22 ⟨Xj, rfl, ho0, hb⟩; refine ⟨_, rfl, ?_⟩
      have n_:=an_ (Kd.R_elder' (pR_ Ob.out) (Kd.R_base ho0) hb)<|an_ (Kd.R_lower (nw_ ho0 (pR_ Ob.out)) (below_size (pB_ HB.out)))<|an_ (blk_below (pk_ Ja.out) hb)<|D (below_step (pB_ HB.out) hb)
      clear Ob Ja HB;obtain ⟨Ob,Ka,Ja,HB⟩:=n_;obtain ⟨Xb,Jc,eo24⟩:=Kd.R_slice Ka.out;(first|subst eo24|obtain ⟨rfl,rfl⟩:=sl_inj eo24);refine hK.out _ _ (be5_ Ja.out) (fun hHeld=>?_);clear hK K;refine nx_ (N:=some 18) ?_;refine oa_ 6 19 8 127 HT_ (fun K hK=>?_);refine Kd.R_append_rows_step (Kd.int .u8) (w0:=w) w.heap.size (by rfl) (.tmp 15) (.tmp 18) 82 5 (.int .u8 0) 1 rfl Try.underlying82 info5 rfl (by decide) (by omega) Ud Mb Jb _ _ _ (fun k_=>some k_≠(Y Xb Jb.length Jc:Value).ownBlock) (fun _=>False) rfl rfl ?aO ?aR (fun _ _ h=>h) (fun _ h=>h.elim) ?aF ?aB ?aS ?aL ?_;(case aR=>exact pC_ ((Kd.R_reads' Ka.out).2.2));(case aB=>exact (pB_ HB.out));(case aF=>exact (fun k_ hk=>Kd.fresh' (Kd.R_lt (pR_ Ka.out)) k_ hk));(case aO=>exact (pR_ (Kd.R_mono Ob.out (fun _ hk=>hk.2))));(case aS=>exact (below_size (pB_ HB.out)));(case aL=>have:=LMc14.out;omega);intro Xd w23 ho hb hg hat;rw [← Ny137.out] at ho
      have n_ := an_ (blk_grown (pk_ Ja.out) hg (Kd.R_ne Ob.out Ja.out (by decide))) <| an_ (Kd.R_after (ok := (fun _ => True)) (pR_ Ka.out) hg hat) <| an_ (hb) <| D (ho)
      clear Ja Ka HB Ob;obtain ⟨Ja,Ka,HB,Kb⟩:=n_;clear ho hb hg hat;refine hK.out _ _ (be5_ Ja.out) (fun hHeld=>?_);clear hK K;refine nx_ (N:=some 19) ?_;refine pb_ 7 ?_;refine done_ (done_of HT_.out (by kernel_rfl)) ?_
      try go_wp2
      have n_ := an_ (Kd.R_drew Ka.out) <| an_ (Kd.R_drew Kb.out) <| an_ (blk_drew Ja.out) <| D (below_drew1 HB.out)
      clear Ka Kb Ja HB;obtain ⟨Ka,Kb,Ja,HB⟩:=n_;refine start_ (n:=10) (S:=fun w'=>w'.cell? ⟨Ma,0,none⟩=some (I L a0_0)∧w'.cell? ⟨Ma,1,none⟩=some (I L a0_1)∧w'.cell? ⟨Ma,2,none⟩=some (I L a0_2)∧w'.cell? ⟨Ma,3,none⟩=some (I L a0_3)∧w'.cell? ⟨Ma,4,none⟩=some (I L a0_4)) (ds:=[]) (bz 10 0) (by kernel_rfl) rfl (by kernel_rfl) (be5_ Ja.out) (fun hHeld=>?_);refine with_tabW spec_AddrBytes.tab6 spec_AddrBytes.bits6 (fun HT_ HW_=>?_);generalize w23.drew=w25 at Ka Kb Ja HB hHeld ⊢;refine pb_ 0 ?_;refine pb_ 1 ?_;refine pb_ 5 ?_;refine tb_ 2 rfl rfl hHeld Z9 ?_;refine tb_ 6 rfl rfl hHeld Z9 ?_;refine oa_ 3 23 10 111 HT_ (fun K hK=>?_);refine goes_ Try.func62 (by kernel_rfl) rfl #[I L a0_3] (by rfl) rfl rfl Z6 ?_;with_reducible refine (spec_Put32.calls a0_3 Ua _ A15.out).mono ?_
      rintro e w26 ⟨Jk, rfl, ho0, hb⟩; refine ⟨_, rfl, ?_⟩
      have n_:=an_ (Kd.R_elder' (pR_ Ka.out) (Kd.R_base ho0) hb)<|an_ (Kd.R_elder' (pR_ Kb.out) (Kd.R_base ho0) hb)<|an_ (Kd.R_lower (nw_ (nw_ ho0 (pR_ Ka.out)) (pR_ Kb.out)) (below_size (pB_ HB.out)))<|an_ (blk_below (pk_ Ja.out) hb)<|D (below_step (pB_ HB.out) hb)
      clear Ka Kb Ja HB;obtain ⟨Ka,Kb,Xa,Ja,HB⟩:=n_;obtain ⟨Mc,Oc,eo28⟩:=Kd.R_slice Xa.out;(first|subst eo28|obtain ⟨rfl,rfl⟩:=sl_inj eo28);refine hK.out _ _ (be5_ Ja.out) (fun hHeld=>?_);clear hK K;refine nx_ (N:=some 23) ?_;refine oa_ 4 24 10 127 HT_ (fun K hK=>?_);refine Kd.R_append_rows_step (Kd.int .u8) (w0:=w) w.heap.size (by rfl) (.tmp 20) (.tmp 23) 82 5 (.int .u8 0) 1 rfl Try.underlying82 info5 rfl (by decide) (by omega) Xd y137 Ua _ _ _ (fun k_=>some k_≠(Y Xb Jb.length Jc:Value).ownBlock∧some k_≠(Y Mc Ua.length Oc:Value).ownBlock) (fun _=>False) rfl rfl ?aO ?aR (fun _ _ h=>h) (fun _ h=>h.elim) ?aF ?aB ?aS ?aL ?_;(case aR=>exact pC_ ((Kd.R_reads' Xa.out).2.2));(case aB=>exact (pB_ HB.out));(case aF=>exact (fun k_ hk=>⟨Kd.fresh' (Kd.R_lt (pR_ Ka.out)) k_ hk,Kd.fresh' (Kd.R_lt (pR_ Xa.out)) k_ hk⟩));(case aO=>exact (pR_ Kb.out));(case aS=>exact (below_size (pB_ HB.out)));(case aL=>have:=LMc16.out;omega);intro Je w27 ho hb hg hat;rw [← Ny143.out] at ho
      have n_:=an_ (blk_grown (pk_ Ja.out) hg (Kd.R_ne Kb.out Ja.out (by decide)))<|an_ (Kd.R_after (ok:=(fun k_=>some k_≠(Y Mc Ua.length Oc:Value).ownBlock)) (pR_ (Kd.R_mono Ka.out (fun _ hk=>⟨hk.2,hk.1.2⟩))) hg hat)<|an_ (Kd.R_after (ok:=(fun k_=>some k_≠(Y Xb Jb.length Jc:Value).ownBlock)) (pR_ (Kd.R_mono Xa.out (fun _ hk=>⟨hk.1.2,hk.2⟩))) hg hat)<|an_ (hb)<|D (ho)
      clear Ja Ka Xa HB Kb;obtain ⟨Ja,Ka,Xa,HB,Ub⟩:=n_;clear ho hb hg hat;refine hK.out _ _ (be5_ Ja.out) (fun hHeld=>?_);clear hK K;refine nx_ (N:=some 24) ?_;refine oa_ 7 27 10 255 HT_ (fun K hK=>?_);refine goes_ Try.func62 (by kernel_rfl) rfl #[I L a0_4] (by rfl) rfl rfl Z6 ?_;with_reducible refine (spec_Put32.calls a0_4 Oa _ A17.out).mono ?_
      rintro e w29 ⟨Kk, rfl, ho0, hb⟩; refine ⟨_, rfl, ?_⟩
      have n_:=an_ (Kd.R_elder' (pR_ Ka.out) (Kd.R_base ho0) hb)<|an_ (Kd.R_elder' (pR_ Xa.out) (Kd.R_base ho0) hb)<|an_ (Kd.R_elder' (pR_ Ub.out) (Kd.R_base ho0) hb)<|an_ (Kd.R_lower (nw_ (nw_ (nw_ ho0 (pR_ Ka.out)) (pR_ Xa.out)) (pR_ Ub.out)) (below_size (pB_ HB.out)))<|an_ (blk_below (pk_ Ja.out) hb)<|D (below_step (pB_ HB.out) hb)
      clear Ka Xa Ub Ja HB;obtain ⟨Ka,Xa,Ub,Kc,Ja,HB⟩:=n_;obtain ⟨Jd,Md,eo31⟩:=Kd.R_slice Kc.out;(first|subst eo31|obtain ⟨rfl,rfl⟩:=sl_inj eo31);refine hK.out _ _ (be5_ Ja.out) (fun hHeld=>?_);clear hK K;refine nx_ (N:=some 27) ?_;refine oa_ 8 28 10 511 HT_ (fun K hK=>?_);refine Kd.R_append_rows_step (Kd.int .u8) (w0:=w) w.heap.size (by rfl) (.tmp 24) (.tmp 27) 82 5 (.int .u8 0) 1 rfl Try.underlying82 info5 rfl (by decide) (by omega) Je y143 Oa _ _ _ (fun k_=>some k_≠(Y Xb Jb.length Jc:Value).ownBlock∧some k_≠(Y Mc Ua.length Oc:Value).ownBlock∧some k_≠(Y Jd Oa.length Md:Value).ownBlock) (fun _=>False) rfl rfl ?aO ?aR (fun _ _ h=>h) (fun _ h=>h.elim) ?aF ?aB ?aS ?aL ?_;(case aR=>exact pC_ ((Kd.R_reads' Kc.out).2.2));(case aB=>exact (pB_ HB.out));(case aF=>exact (fun k_ hk=>⟨Kd.fresh' (Kd.R_lt (pR_ Ka.out)) k_ hk,Kd.fresh' (Kd.R_lt (pR_ Xa.out)) k_ hk,Kd.fresh' (Kd.R_lt (pR_ Kc.out)) k_ hk⟩));(case aO=>exact (pR_ (Kd.R_mono Ub.out (fun _ hk=>⟨hk.1.1,⟨hk.1.2,hk.2⟩⟩))));(case aS=>exact (below_size (pB_ HB.out)));(case aL=>have:=LMc18.out;omega);intro Mk w30 ho hb hg hat;rw [← Ny149.out] at ho
      have n_:=an_ (blk_grown (pk_ Ja.out) hg (Kd.R_ne Ub.out Ja.out (by decide)))<|an_ (Kd.R_after (ok:=(fun k_=>some k_≠(Y Mc Ua.length Oc:Value).ownBlock∧some k_≠(Y Jd Oa.length Md:Value).ownBlock)) (pR_ (Kd.R_mono Ka.out (fun _ hk=>⟨⟨hk.1.1,hk.2⟩,hk.1.2⟩))) hg hat)<|an_ (Kd.R_after (ok:=(fun k_=>some k_≠(Y Xb Jb.length Jc:Value).ownBlock∧some k_≠(Y Jd Oa.length Md:Value).ownBlock)) (pR_ (Kd.R_mono Xa.out (fun _ hk=>⟨⟨hk.1.1,hk.2⟩,hk.1.2⟩))) hg hat)<|an_ (Kd.R_after (ok:=(fun k_=>some k_≠(Y Xb Jb.length Jc:Value).ownBlock∧some k_≠(Y Mc Ua.length Oc:Value).ownBlock)) (pR_ (Kd.R_mono Kc.out (fun _ hk=>⟨⟨hk.1.1.2,hk.1.2⟩,hk.2⟩))) hg hat)<|an_ (hb)<|D (ho)
      clear Ja Ka Xa Kc HB Ub;obtain ⟨Ja,Ka,Xa,Kc,HB,Ke⟩:=n_;clear ho hb hg hat;refine hK.out _ _ (be5_ Ja.out) (fun hHeld=>?_);clear hK K;refine nx_ (N:=some 28) ?_;refine pb_ 9 ?_;refine done_ (done_of HT_.out (by kernel_rfl)) ?_
      try go_wp2
      go_ret;exact ⟨_,er_,by (with_reducible repeat (first|apply Kd.R_alloc|apply Kd.R_drewN|apply Kd.R_drew));exact Kd.R_mono Ke.out (fun _ hk=>trivial),pB_ HB.out⟩
     ·rw [if_neg c18] at H
      exact absurd H (by simp)
    ·rw [if_neg c16] at H
     exact absurd H (by simp)
   ·rw [if_neg c14] at H
    exact absurd H (by simp)
 ·replace c7 := Bool.eq_false_iff.mpr c7
  subst c7; rw [if_neg (show ¬ (false = true) by decide)] at H; obtain rfl := Option.some.inj H
  go_wp2
  go_ret;exact ⟨_,er_,by first|exact Kd.R_nil _ _ _ _ _|exact Kd.N_nil _ _ _ _ _|exact Kd.V_nil _ _ _ _ _|exact Kd.Q_nil _ _ _ _ _|exact Kd.S_nil _ _ _ _ _,pB_ HB.out⟩

end Go.Proofs.Ytjhgkonacdimfab.PFnExactCmdOk
