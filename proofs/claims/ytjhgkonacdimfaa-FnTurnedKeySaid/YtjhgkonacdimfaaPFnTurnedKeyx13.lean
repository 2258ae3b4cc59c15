-- by a program of this session's, over the kit's words
import Derived.Test.YtjhgkonacdimfaaPZFnTurnedKey
import Derived.Test.YtjhgkonacdimfaaPFnTurnedKeyx0
import Derived.Test.YtjhgkonacdimfaaPFnTurnedKeyx2
import Derived.Test.YtjhgkonacdimfaaPFnTurnedKeyx12
namespace Go.Proofs.Ytjhgkonacdimfaa.PFnTurnedKey
open Go.RowKit Go.Proofs.YtjhgkonacdimfaaW.PrintWords Go.Proofs.YtjhgkonacdimfaaW.PrintLast Go.Proofs.YtjhgkonacdimfaaW.PrintMore Go.Proofs.YtjhgkonacdimfaaV Go.Proofs.Ytjhgkonacdimfaa.ZFnTurnedKey
open Go.Value renaming int → I, slice → Y
open Go.IntKind renaming i64 → L
open Aside0 renaming mk → D
open Option renaming bind_eq_some_iff → bs_
attribute [local go_sem] max2_int min2_int max_two min_two max_three min_three max_four min_four   -- for this text's walks alone
set_option linter.unusedVariables false
set_option linter.unusedSimpArgs false

attribute [local go_sem high] eqA27
/-! ### spec_KeyOk: function 6 -/
def spec_KeyOk.f (a0_0 a0_1 a0_2 a0_3 a0_4 a0_5 a0_6 a0_7 a0_8 a0_9 a0_10 a0_11 a0_12 : Int) : Option (Bool) := (spec_l07Pair.f a0_0 a0_1 a0_2 a0_3 a0_4 a0_5 a0_6 a0_7 a0_8 a0_9).bind fun t688 => (if t688 = true then ((spec_l05In.f a0_10 255).bind fun t689 => (if t689 = true then ((spec_l05In.f a0_11 65535).bind fun t690 => (if t690 = true then ((spec_l05In.f a0_12 65535).bind fun t691 => (some t691)) else (some false))) else (some false))) else (some false))
set_option maxHeartbeats 8000000 in
set_option maxRecDepth 100000 in
theorem spec_KeyOk.calls (a0_0 a0_1 a0_2 a0_3 a0_4 a0_5 a0_6 a0_7 a0_8 a0_9 a0_10 a0_11 a0_12 : Int) (r : Bool) (w : World) (h : spec_KeyOk.f a0_0 a0_1 a0_2 a0_3 a0_4 a0_5 a0_6 a0_7 a0_8 a0_9 a0_10 a0_11 a0_12 = some r) :
  Calls Try.prog 6 #[.agg #[I L a0_0,I L a0_1,I L a0_2,I L a0_3,I L a0_4,I L a0_5,I L a0_6,I L a0_7,I L a0_8,I L a0_9,I L a0_10,I L a0_11,I L a0_12]] w fun e w'=>e=.returned (.bool r)∧Below w.heap.size w w':=by
 have hu31 := Try.underlying31
 have hu25 := Try.underlying25
 have HB := D (Below.refl w.heap.size w)
 have H:((spec_l07Pair.f a0_0 a0_1 a0_2 a0_3 a0_4 a0_5 a0_6 a0_7 a0_8 a0_9).bind fun Ma=>(if Ma=true then ((spec_l05In.f a0_10 255).bind fun Oa=>(if Oa=true then ((spec_l05In.f a0_11 65535).bind fun Ua=>(if Ua=true then ((spec_l05In.f a0_12 65535).bind fun Xa=>(some Xa)) else (some false))) else (some false))) else (some false)))=some r:=h
 clear h
 obtain ⟨Ma, A20, H⟩ := bs_.mp H
 (try dsimp only at H)
 have A2 := D A20
 clear A20
 by_cases c3 : Ma = true
 ·subst c3
  rw [if_pos rfl] at H; obtain ⟨Oa, A40, H⟩ := bs_.mp H; (try dsimp only at H); have A4 := D A40; clear A40
  by_cases c5 : Oa = true
  ·subst c5
   rw [if_pos rfl] at H; obtain ⟨Ua, A60, H⟩ := bs_.mp H; (try dsimp only at H); have A6 := D A60; clear A60
   by_cases c7 : Ua = true
   ·subst c7
    rw [if_pos rfl] at H;obtain ⟨Xa,A80,H⟩:=bs_.mp H;(try dsimp only at H);have A8:=D A80;clear A80;obtain rfl:=Option.some.inj H;go_enter Try.func6,Try.ntmps6
    go_wp2_with (first|((with_reducible refine gld_ 25 rfl ?_);(first|refine la25o0_ ?_|refine la25o5_ ?_))|((with_reducible refine gld_ 3 rfl ?_);refine lc3_ ?_)|((with_reducible refine gst_ 31 rfl ?_);refine sa31_ ?_)|((with_reducible refine gld_ 31 rfl ?_);refine la31_ ?_)|((with_reducible refine gate_dst (N:=1) rfl ?_);refine bx_ (N:=1) (cs:=#[I L a0_0,I L a0_1,I L a0_2,I L a0_3,I L a0_4,I L a0_5,I L a0_6,I L a0_7,I L a0_8,I L a0_9,I L a0_10,I L a0_11,I L a0_12]) (t:=31) ?_;intro Ka hg w9 hbox hb;have n_:=an_ (below_step (pB_ HB.out) hb)<|an_ (hbox)<|an_ (bg_ hg (pB_ HB.out):w.heap.size≤Ka)<|D (bg_ hg (pB_ HB.out):w.heap.size≤Ka);clear HB;obtain ⟨HB,Ja,Jb,Kb⟩:=n_;clear hb hbox hg;obtain ⟨Mb,Ob,Ub,Xb,Jc,Kc,Mc,Oc,Uc,Xc,Jd,Kd,Md,Od,Ud,Xd,Je,Ke,Me,Oe,Ue,Xe,Jf,Kf,Mf,Of⟩:=cells13 Ja.out)|((with_reducible refine gate_callee (f:=14) rfl ?_);refine goesL_ (some 7) rfl rfl Try.func14 (by kernel_rfl) rfl #[.agg #[I L a0_0,I L a0_1,I L a0_2,I L a0_3,I L a0_4],.agg #[I L a0_5,I L a0_6,I L a0_7,I L a0_8,I L a0_9]] rfl Z8 ?_;(with_reducible refine (spec_l07Pair.calls a0_0 a0_1 a0_2 a0_3 a0_4 a0_5 a0_6 a0_7 a0_8 a0_9 true _ A2.out).mono ?_);rintro e w11 ⟨rfl,hb⟩;refine ⟨_,rfl,?_⟩;have n_:=an_ (blk_below (pk_ Ja.out) hb)<|D (below_step (pB_ HB.out) hb);clear Ja HB;obtain ⟨Ja,HB⟩:=n_;(try clear hb);obtain ⟨Uf,Xf,Jg,Kg,Mg,Og,Ug,Xg,Jh,Kh,Mh,Oh,Uh,Xh,Ji,Ki,Mi,Oi,Ui,Xi,Jj,Kj,Mj,Oj,Uj,Xj⟩:=cells13 Ja.out)|(go_at_call 15;(with_reducible refine (spec_l05In.calls a0_10 255 true _ A4.out).mono ?_);rintro e w' ⟨rfl,⟨nd,rfl⟩⟩)|(go_at_call 15;(with_reducible refine (spec_l05In.calls a0_11 65535 true _ A6.out).mono ?_);rintro e w' ⟨rfl,⟨nd,rfl⟩⟩)|(go_at_call 15;(with_reducible refine (spec_l05In.calls a0_12 65535 Xa _ A8.out).mono ?_);rintro e w' ⟨rfl,⟨nd,rfl⟩⟩))
    go_ret; exact ⟨er_, pB_ HB.out⟩
   ·replace c7 := Bool.eq_false_iff.mpr c7
    subst c7; rw [if_neg (show ¬ (false = true) by decide)] at H; obtain rfl := Option.some.inj H; go_enter Try.func6, Try.ntmps6
    go_wp2_with (first|((with_reducible refine gld_ 25 rfl ?_);(first|refine la25o0_ ?_|refine la25o5_ ?_))|((with_reducible refine gld_ 3 rfl ?_);refine lc3_ ?_)|((with_reducible refine gst_ 31 rfl ?_);refine sa31_ ?_)|((with_reducible refine gld_ 31 rfl ?_);refine la31_ ?_)|((with_reducible refine gate_dst (N:=1) rfl ?_);refine bx_ (N:=1) (cs:=#[I L a0_0,I L a0_1,I L a0_2,I L a0_3,I L a0_4,I L a0_5,I L a0_6,I L a0_7,I L a0_8,I L a0_9,I L a0_10,I L a0_11,I L a0_12]) (t:=31) ?_;intro Ka hg w13 hbox hb;have n_:=an_ (below_step (pB_ HB.out) hb)<|an_ (hbox)<|an_ (bg_ hg (pB_ HB.out):w.heap.size≤Ka)<|D (bg_ hg (pB_ HB.out):w.heap.size≤Ka);clear HB;obtain ⟨HB,Ja,Jb,Kb⟩:=n_;clear hb hbox hg;obtain ⟨Jk,Kk,Mk,Ok,Uk,Xk,Jm,Km,Mm,Om,Um,Xm,Jn,Kn,Mn,On,Un,Xn,Jo,Ko,Mo,Oo,Uo,Xo,Jp,Kp⟩:=cells13 Ja.out)|((with_reducible refine gate_callee (f:=14) rfl ?_);refine goesL_ (some 7) rfl rfl Try.func14 (by kernel_rfl) rfl #[.agg #[I L a0_0,I L a0_1,I L a0_2,I L a0_3,I L a0_4],.agg #[I L a0_5,I L a0_6,I L a0_7,I L a0_8,I L a0_9]] rfl Z8 ?_;(with_reducible refine (spec_l07Pair.calls a0_0 a0_1 a0_2 a0_3 a0_4 a0_5 a0_6 a0_7 a0_8 a0_9 true _ A2.out).mono ?_);rintro e w15 ⟨rfl,hb⟩;refine ⟨_,rfl,?_⟩;have n_:=an_ (blk_below (pk_ Ja.out) hb)<|D (below_step (pB_ HB.out) hb);clear Ja HB;obtain ⟨Ja,HB⟩:=n_;(try clear hb);obtain ⟨Mp,Op,Up,Xp,Jq,Kq,Mq,Oq,Uq,Xq,Jr,Kr,Mr,Or,Ur,Xr,Js,Ks,Ms,Os,Us,Xs,Ju,Ku,Mu,Ou⟩:=cells13 Ja.out)|(go_at_call 15;(with_reducible refine (spec_l05In.calls a0_10 255 true _ A4.out).mono ?_);rintro e w' ⟨rfl,⟨nd,rfl⟩⟩)|(go_at_call 15;(with_reducible refine (spec_l05In.calls a0_11 65535 false _ A6.out).mono ?_);rintro e w' ⟨rfl,⟨nd,rfl⟩⟩))
    go_ret; exact ⟨er_, pB_ HB.out⟩
  ·replace c5 := Bool.eq_false_iff.mpr c5
   subst c5; rw [if_neg (show ¬ (false = true) by decide)] at H; obtain rfl := Option.some.inj H; go_enter Try.func6, Try.ntmps6
   go_wp2_with (first|((with_reducible refine gld_ 25 rfl ?_);(first|refine la25o0_ ?_|refine la25o5_ ?_))|((with_reducible refine gld_ 3 rfl ?_);refine lc3_ ?_)|((with_reducible refine gst_ 31 rfl ?_);refine sa31_ ?_)|((with_reducible refine gld_ 31 rfl ?_);refine la31_ ?_)|((with_reducible refine gate_dst (N:=1) rfl ?_);refine bx_ (N:=1) (cs:=#[I L a0_0,I L a0_1,I L a0_2,I L a0_3,I L a0_4,I L a0_5,I L a0_6,I L a0_7,I L a0_8,I L a0_9,I L a0_10,I L a0_11,I L a0_12]) (t:=31) ?_;intro Ka hg w17 hbox hb;have n_:=an_ (below_step (pB_ HB.out) hb)<|an_ (hbox)<|an_ (bg_ hg (pB_ HB.out):w.heap.size≤Ka)<|D (bg_ hg (pB_ HB.out):w.heap.size≤Ka);clear HB;obtain ⟨HB,Ja,Jb,Kb⟩:=n_;clear hb hbox hg;obtain ⟨Uu,Xu,Jv,Kv,Mv,Ov,Uv,Xv,Jx,Kx,Mx,Ox,Ux,Xx,Jy,Ky,My,Oy,Uy,Xy,Jz,Kz,Mz,Oz,Uz,Xz⟩:=cells13 Ja.out)|((with_reducible refine gate_callee (f:=14) rfl ?_);refine goesL_ (some 7) rfl rfl Try.func14 (by kernel_rfl) rfl #[.agg #[I L a0_0,I L a0_1,I L a0_2,I L a0_3,I L a0_4],.agg #[I L a0_5,I L a0_6,I L a0_7,I L a0_8,I L a0_9]] rfl Z8 ?_;(with_reducible refine (spec_l07Pair.calls a0_0 a0_1 a0_2 a0_3 a0_4 a0_5 a0_6 a0_7 a0_8 a0_9 true _ A2.out).mono ?_);rintro e w19 ⟨rfl,hb⟩;refine ⟨_,rfl,?_⟩;have n_:=an_ (blk_below (pk_ Ja.out) hb)<|D (below_step (pB_ HB.out) hb);clear Ja HB;obtain ⟨Ja,HB⟩:=n_;(try clear hb);obtain ⟨Ja1,Ka1,Ma1,Oa1,Ua1,Xa1,Jb1,Kb1,Mb1,Ob1,Ub1,Xb1,Jc1,Kc1,Mc1,Oc1,Uc1,Xc1,Jd1,Kd1,Md1,Od1,Ud1,Xd1,Je1,Ke1⟩:=cells13 Ja.out)|(go_at_call 15;(with_reducible refine (spec_l05In.calls a0_10 255 false _ A4.out).mono ?_);rintro e w' ⟨rfl,⟨nd,rfl⟩⟩))
   go_ret; exact ⟨er_, pB_ HB.out⟩
 ·replace c3 := Bool.eq_false_iff.mpr c3
  subst c3; rw [if_neg (show ¬ (false = true) by decide)] at H; obtain rfl := Option.some.inj H; go_enter Try.func6, Try.ntmps6
  go_wp2_with (first|((with_reducible refine gld_ 25 rfl ?_);(first|refine la25o0_ ?_|refine la25o5_ ?_))|((with_reducible refine gld_ 3 rfl ?_);refine lc3_ ?_)|((with_reducible refine gst_ 31 rfl ?_);refine sa31_ ?_)|((with_reducible refine gld_ 31 rfl ?_);refine la31_ ?_)|((with_reducible refine gate_dst (N:=1) rfl ?_);refine bx_ (N:=1) (cs:=#[I L a0_0,I L a0_1,I L a0_2,I L a0_3,I L a0_4,I L a0_5,I L a0_6,I L a0_7,I L a0_8,I L a0_9,I L a0_10,I L a0_11,I L a0_12]) (t:=31) ?_;intro Ka hg w21 hbox hb;have n_:=an_ (below_step (pB_ HB.out) hb)<|an_ (hbox)<|an_ (bg_ hg (pB_ HB.out):w.heap.size≤Ka)<|D (bg_ hg (pB_ HB.out):w.heap.size≤Ka);clear HB;obtain ⟨HB,Ja,Jb,Kb⟩:=n_;clear hb hbox hg;obtain ⟨Me1,Oe1,Ue1,Xe1,Jf1,Kf1,Mf1,Of1,Uf1,Xf1,Jg1,Kg1,Mg1,Og1,Ug1,Xg1,Jh1,Kh1,Mh1,Oh1,Uh1,Xh1,Ji1,Ki1,Mi1,Oi1⟩:=cells13 Ja.out)|((with_reducible refine gate_callee (f:=14) rfl ?_);refine goesL_ (some 7) rfl rfl Try.func14 (by kernel_rfl) rfl #[.agg #[I L a0_0,I L a0_1,I L a0_2,I L a0_3,I L a0_4],.agg #[I L a0_5,I L a0_6,I L a0_7,I L a0_8,I L a0_9]] rfl Z8 ?_;(with_reducible refine (spec_l07Pair.calls a0_0 a0_1 a0_2 a0_3 a0_4 a0_5 a0_6 a0_7 a0_8 a0_9 false _ A2.out).mono ?_);rintro e w23 ⟨rfl,hb⟩;refine ⟨_,rfl,?_⟩;have n_:=an_ (blk_below (pk_ Ja.out) hb)<|D (below_step (pB_ HB.out) hb);clear Ja HB;obtain ⟨Ja,HB⟩:=n_;(try clear hb)))
  go_ret; exact ⟨er_, pB_ HB.out⟩

/-! ### impl_within: function 31 -/
def impl_within.f (a0 a1 a2 : Int) : Option (Bool) := if a0 ≥ a1 then (some (decide (a0 ≤ a2))) else (some false)
set_option maxHeartbeats 8000000 in
set_option maxRecDepth 100000 in
theorem impl_within.calls (a0 a1 a2 : Int) (r : Bool) (w : World) (h : impl_within.f a0 a1 a2 = some r) :
  Calls Try.prog 31 #[I L a0, I L a1, I L a2] w fun e w' => e = .returned (.bool r) ∧ Drawn0 w w' := by
 have H : (if a0 ≥ a1 then (some (decide (a0 ≤ a2))) else (some false)) = some r := h
 clear h
 by_cases c4 : a0 ≥ a1
 ·rw [if_pos c4] at H
  have c4b0 : decide (a1 ≤ a0) = true := decide_eq_true c4; clear c4; obtain rfl := Option.some.inj H; go_enter Try.func31, Try.ntmps31
  go_wp2
  go_ret; exact ⟨by first | rfl | (simp; done) | (simp [*]; done), by repeat (first | exact Drawn0.refl _ | apply Drawn0.step)⟩
 ·rw [if_neg c4] at H
  have c4b0 : decide (a1 ≤ a0) = false := decide_eq_false c4; clear c4; obtain rfl := Option.some.inj H; go_enter Try.func31, Try.ntmps31
  go_wp2
  go_ret; exact ⟨by first | rfl | (simp; done) | (simp [*]; done), by repeat (first | exact Drawn0.refl _ | apply Drawn0.step)⟩

/-! ### impl_isLong: function 52 -/
def impl_isLong.f (a0 : Int) : Option (Bool) := (impl_within.f a0 0 4294967295).bind fun t692 => (some t692)
set_option maxHeartbeats 8000000 in
set_option maxRecDepth 100000 in
theorem impl_isLong.calls (a0 : Int) (r : Bool) (w : World) (h : impl_isLong.f a0 = some r) :
  Calls Try.prog 52 #[I L a0] w fun e w' => e = .returned (.bool r) ∧ Drawn0 w w' := by
 have H : ((impl_within.f a0 0 4294967295).bind fun t692 => (some t692)) = some r := h
 clear h
 obtain ⟨t692, A20, H⟩ := bs_.mp H
 (try dsimp only at H)
 have A2 := D A20
 clear A20
 obtain rfl := Option.some.inj H
 go_enter Try.func52, Try.ntmps52
 go_wp2_with (first|((with_reducible refine gate_callee (f:=31) rfl ?_);refine goesL_ (some 4) rfl rfl Try.func31 (by kernel_rfl) rfl #[I L a0,I L 0,I L 4294967295] rfl Z8 ?_;(with_reducible refine (impl_within.calls a0 0 4294967295 t692 _ A2.out).mono ?_);rintro e w' ⟨rfl,⟨nd,rfl⟩⟩;refine ⟨_,rfl,?_⟩))
 go_ret
 exact ⟨by first | rfl | (simp; done) | (simp [*]; done), by repeat (first | exact Drawn0.refl _ | apply Drawn0.step)⟩

/-! ### impl_AddrOk: function 44 -/
def impl_AddrOk.f (a0_0 a0_1 a0_2 a0_3 a0_4 : Int) : Option (Bool) := if a0_0 = 4 then (if a0_1 = 0 then (if a0_2 = 0 then (if a0_3 = 0 then ((impl_isLong.f a0_4).bind fun t694 => (some t694)) else (some false)) else (some false)) else (some false)) else (if a0_0 = 6 then ((impl_isLong.f a0_1).bind fun t695 => (if t695 = true then ((impl_isLong.f a0_2).bind fun t696 => (if t696 = true then ((impl_isLong.f a0_3).bind fun t697 => (if t697 = true then ((impl_isLong.f a0_4).bind fun t698 => (some t698)) else (some false))) else (some false))) else (some false))) else (some false))
set_option maxHeartbeats 8000000 in
set_option maxRecDepth 100000 in
theorem impl_AddrOk.calls (a0_0 a0_1 a0_2 a0_3 a0_4 : Int) (r : Bool) (w : World) (h : impl_AddrOk.f a0_0 a0_1 a0_2 a0_3 a0_4 = some r) :
  Calls Try.prog 44 #[.agg #[I L a0_0, I L a0_1, I L a0_2, I L a0_3, I L a0_4]] w fun e w' => e = .returned (.bool r) ∧ Below w.heap.size w w' := by
 have hu25 := Try.underlying25
 have HB := D (Below.refl w.heap.size w)
 have H:(if a0_0=4 then (if a0_1=0 then (if a0_2=0 then (if a0_3=0 then ((impl_isLong.f a0_4).bind fun t694=>(some t694)) else (some false)) else (some false)) else (some false)) else (if a0_0=6 then ((impl_isLong.f a0_1).bind fun t695=>(if t695=true then ((impl_isLong.f a0_2).bind fun t696=>(if t696=true then ((impl_isLong.f a0_3).bind fun t697=>(if t697=true then ((impl_isLong.f a0_4).bind fun t698=>(some t698)) else (some false))) else (some false))) else (some false))) else (some false)))=some r:=h
 clear h
 have HU2 := D H
 clear H
 go_enter Try.func44, Try.ntmps44
 go_upto_if 5 with (first|((with_reducible refine gate_dst (N:=1) rfl ?_);refine bx_ (N:=1) (cs:=#[I L a0_0,I L a0_1,I L a0_2,I L a0_3,I L a0_4]) (t:=25) ?_;intro gb693 hg w3 hbox hb;have n_:=an_ (below_step (pB_ HB.out) hb)<|an_ (hbox)<|an_ (bg_ hg (pB_ HB.out):w.heap.size≤gb693)<|D (bg_ hg (pB_ HB.out):w.heap.size≤gb693);clear HB;obtain ⟨HB,BK693,GW693,GE693⟩:=n_;clear hb hbox hg;have hcz4_0:=cells5 BK693.out))
 have H := HU2.out
 clear HU2
 by_cases c5 : a0_0 = 4
 ·rw [if_pos c5] at H
  have c5b0:(a0_0 == 4)=true:=beq_iff_eq.mpr c5;have c5b1:(a0_0 != 4)=false:=bne_eq_false_iff_eq.mpr c5;clear c5;refine rw_ c5b0 ?_
  by_cases c6 : a0_1 = 0
  ·rw [if_pos c6] at H
   have c6b0 : (a0_1 == 0) = true := beq_iff_eq.mpr c6; have c6b1 : (a0_1 != 0) = false := bne_eq_false_iff_eq.mpr c6; clear c6
   by_cases c7 : a0_2 = 0
   ·rw [if_pos c7] at H
    have c7b0 : (a0_2 == 0) = true := beq_iff_eq.mpr c7; have c7b1 : (a0_2 != 0) = false := bne_eq_false_iff_eq.mpr c7; clear c7
    by_cases c8 : a0_3 = 0
    ·rw [if_pos c8] at H
     have c8b0:(a0_3 == 0)=true:=beq_iff_eq.mpr c8;have c8b1:(a0_3 != 0)=false:=bne_eq_false_iff_eq.mpr c8;clear c8;obtain ⟨t694,A90,H⟩:=bs_.mp H;(try dsimp only at H);have A9:=D A90;clear A90;obtain rfl:=Option.some.inj H;have hcz10_0:=cells5 BK693.out
     go_wp2_with (first | (go_at_call 52; (with_reducible refine (impl_isLong.calls a0_4 t694 _ A9.out).mono ?_); rintro e w' ⟨rfl, ⟨nd, rfl⟩⟩))
     go_ret; exact ⟨er_, pB_ HB.out⟩
    ·rw [if_neg c8] at H
     have c8b0:(a0_3 == 0)=false:=beq_eq_false_iff_ne.mpr c8;have c8b1:(a0_3 != 0)=true:=bne_iff_ne.mpr c8;obtain rfl:=Option.some.inj H;have hcz11_0:=cells5 BK693.out
     go_wp2
     go_ret; exact ⟨er_, pB_ HB.out⟩
   ·rw [if_neg c7] at H
    have c7b0:(a0_2 == 0)=false:=beq_eq_false_iff_ne.mpr c7;have c7b1:(a0_2 != 0)=true:=bne_iff_ne.mpr c7;obtain rfl:=Option.some.inj H;have hcz12_0:=cells5 BK693.out
    go_wp2
    go_ret; exact ⟨er_, pB_ HB.out⟩
  ·rw [if_neg c6] at H
   have c6b0:(a0_1 == 0)=false:=beq_eq_false_iff_ne.mpr c6;have c6b1:(a0_1 != 0)=true:=bne_iff_ne.mpr c6;obtain rfl:=Option.some.inj H;have hcz13_0:=cells5 BK693.out
   go_wp2
   go_ret; exact ⟨er_, pB_ HB.out⟩
 ·rw [if_neg c5] at H
  have c5b0:(a0_0 == 4)=false:=beq_eq_false_iff_ne.mpr c5;have c5b1:(a0_0 != 4)=true:=bne_iff_ne.mpr c5;refine rw_ c5b0 ?_
  by_cases c14 : a0_0 = 6
  ·rw [if_pos c14] at H
   have c14b0:(a0_0 == 6)=true:=beq_iff_eq.mpr c14;have c14b1:(a0_0 != 6)=false:=bne_eq_false_iff_eq.mpr c14;clear c14;obtain ⟨t695,A150,H⟩:=bs_.mp H;(try dsimp only at H);have A15:=D A150;clear A150
   by_cases c16 : t695 = true
   ·subst c16
    rw [if_pos rfl] at H; obtain ⟨t696, A170, H⟩ := bs_.mp H; (try dsimp only at H); have A17 := D A170; clear A170
    by_cases c18 : t696 = true
    ·subst c18
     rw [if_pos rfl] at H; obtain ⟨t697, A190, H⟩ := bs_.mp H; (try dsimp only at H); have A19 := D A190; clear A190
     by_cases c20 : t697 = true
     ·subst c20
      rw [if_pos rfl] at H;obtain ⟨t698,A210,H⟩:=bs_.mp H;(try dsimp only at H);have A21:=D A210;clear A210;obtain rfl:=Option.some.inj H;have hcz22_0:=cells5 BK693.out
      go_wp2_with (first|((with_reducible refine gate_callee (f:=52) rfl ?_);refine goesL_ (some 29) rfl rfl Try.func52 (by kernel_rfl) rfl #[I L a0_1] rfl Z8 ?_;(with_reducible refine (impl_isLong.calls a0_1 true _ A15.out).mono ?_);rintro e w' ⟨rfl,⟨nd,rfl⟩⟩;refine ⟨_,rfl,?_⟩)|(go_at_call 52;(with_reducible refine (impl_isLong.calls a0_2 true _ A17.out).mono ?_);rintro e w' ⟨rfl,⟨nd,rfl⟩⟩)|(go_at_call 52;(with_reducible refine (impl_isLong.calls a0_3 true _ A19.out).mono ?_);rintro e w' ⟨rfl,⟨nd,rfl⟩⟩)|(go_at_call 52;(with_reducible refine (impl_isLong.calls a0_4 t698 _ A21.out).mono ?_);rintro e w' ⟨rfl,⟨nd,rfl⟩⟩))
      go_ret; exact ⟨er_, pB_ HB.out⟩
     ·replace c20 := Bool.eq_false_iff.mpr c20
      subst c20;rw [if_neg (show ¬ (false=true) by decide)] at H;obtain rfl:=Option.some.inj H;have hcz23_0:=cells5 BK693.out
      go_wp2_with (first|((with_reducible refine gate_callee (f:=52) rfl ?_);refine goesL_ (some 29) rfl rfl Try.func52 (by kernel_rfl) rfl #[I L a0_1] rfl Z8 ?_;(with_reducible refine (impl_isLong.calls a0_1 true _ A15.out).mono ?_);rintro e w' ⟨rfl,⟨nd,rfl⟩⟩;refine ⟨_,rfl,?_⟩)|(go_at_call 52;(with_reducible refine (impl_isLong.calls a0_2 true _ A17.out).mono ?_);rintro e w' ⟨rfl,⟨nd,rfl⟩⟩)|(go_at_call 52;(with_reducible refine (impl_isLong.calls a0_3 false _ A19.out).mono ?_);rintro e w' ⟨rfl,⟨nd,rfl⟩⟩))
      go_ret; exact ⟨er_, pB_ HB.out⟩
    ·replace c18 := Bool.eq_false_iff.mpr c18
     subst c18;rw [if_neg (show ¬ (false=true) by decide)] at H;obtain rfl:=Option.some.inj H;have hcz24_0:=cells5 BK693.out
     go_wp2_with (first|((with_reducible refine gate_callee (f:=52) rfl ?_);refine goesL_ (some 29) rfl rfl Try.func52 (by kernel_rfl) rfl #[I L a0_1] rfl Z8 ?_;(with_reducible refine (impl_isLong.calls a0_1 true _ A15.out).mono ?_);rintro e w' ⟨rfl,⟨nd,rfl⟩⟩;refine ⟨_,rfl,?_⟩)|(go_at_call 52;(with_reducible refine (impl_isLong.calls a0_2 false _ A17.out).mono ?_);rintro e w' ⟨rfl,⟨nd,rfl⟩⟩))
     go_ret; exact ⟨er_, pB_ HB.out⟩
   ·replace c16 := Bool.eq_false_iff.mpr c16
    subst c16;rw [if_neg (show ¬ (false=true) by decide)] at H;obtain rfl:=Option.some.inj H;have hcz25_0:=cells5 BK693.out
    go_wp2_with (first|((with_reducible refine gate_callee (f:=52) rfl ?_);refine goesL_ (some 29) rfl rfl Try.func52 (by kernel_rfl) rfl #[I L a0_1] rfl Z8 ?_;(with_reducible refine (impl_isLong.calls a0_1 false _ A15.out).mono ?_);rintro e w' ⟨rfl,⟨nd,rfl⟩⟩;refine ⟨_,rfl,?_⟩))
    go_ret; exact ⟨er_, pB_ HB.out⟩
  ·rw [if_neg c14] at H
   have c14b0 : (a0_0 == 6) = false := beq_eq_false_iff_ne.mpr c14; have c14b1 : (a0_0 != 6) = true := bne_iff_ne.mpr c14; obtain rfl := Option.some.inj H
   go_wp2
   go_ret; exact ⟨er_, pB_ HB.out⟩

/-! ### impl_areBoth: function 28 -/
def impl_areBoth.f (a0_0 a0_1 a0_2 a0_3 a0_4 a1_0 a1_1 a1_2 a1_3 a1_4 : Int) : Option (Bool) := (impl_AddrOk.f a0_0 a0_1 a0_2 a0_3 a0_4).bind fun t701 => (if t701 = true then ((impl_AddrOk.f a1_0 a1_1 a1_2 a1_3 a1_4).bind fun t702 => (if t702 = true then (some (a0_0 == a1_0)) else (some false))) else (some false))
set_option maxHeartbeats 8000000 in
set_option maxRecDepth 100000 in
theorem impl_areBoth.calls (a0_0 a0_1 a0_2 a0_3 a0_4 a1_0 a1_1 a1_2 a1_3 a1_4 : Int) (r : Bool) (w : World) (h : impl_areBoth.f a0_0 a0_1 a0_2 a0_3 a0_4 a1_0 a1_1 a1_2 a1_3 a1_4 = some r) :
  Calls Try.prog 28 #[.agg #[I L a0_0,I L a0_1,I L a0_2,I L a0_3,I L a0_4],.agg #[I L a1_0,I L a1_1,I L a1_2,I L a1_3,I L a1_4]] w fun e w'=>e=.returned (.bool r)∧Below w.heap.size w w':=by
 have hu25 := Try.underlying25
 have HB := D (Below.refl w.heap.size w)
 have H:((impl_AddrOk.f a0_0 a0_1 a0_2 a0_3 a0_4).bind fun t701=>(if t701=true then ((impl_AddrOk.f a1_0 a1_1 a1_2 a1_3 a1_4).bind fun t702=>(if t702=true then (some (a0_0 == a1_0)) else (some false))) else (some false)))=some r:=h
 clear h
 obtain ⟨t701, A30, H⟩ := bs_.mp H
 (try dsimp only at H)
 have A3 := D A30
 clear A30
 by_cases c4 : t701 = true
 ·subst c4
  rw [if_pos rfl] at H; obtain ⟨t702, A50, H⟩ := bs_.mp H; (try dsimp only at H); have A5 := D A50; clear A50
  by_cases c6 : t702 = true
  ·subst c6
   rw [if_pos rfl] at H; obtain rfl := Option.some.inj H; go_enter Try.func28, Try.ntmps28
   go_wp2_with (first|((with_reducible refine gate_dst (N:=2) rfl ?_);refine bx_ (N:=2) (cs:=#[I L a0_0,I L a0_1,I L a0_2,I L a0_3,I L a0_4]) (t:=25) ?_;intro gb699 hg w7 hbox hb;have n_:=an_ (below_step (pB_ HB.out) hb)<|an_ (hbox)<|an_ (bg_ hg (pB_ HB.out):w.heap.size≤gb699)<|D (bg_ hg (pB_ HB.out):w.heap.size≤gb699);clear HB;obtain ⟨HB,BK699,GW699,GE699⟩:=n_;clear hb hbox hg)|((with_reducible refine gate_dst (N:=3) rfl ?_);refine bx_ (N:=3) (cs:=#[I L a1_0,I L a1_1,I L a1_2,I L a1_3,I L a1_4]) (t:=25) ?_;intro gb700 hg w8 hbox hb;have n_:=an_ (blk_below (pk_ BK699.out) hb)<|an_ (below_step (pB_ HB.out) hb)<|an_ (hbox)<|an_ (bg_ hg (pB_ HB.out):w.heap.size≤gb700)<|an_ (bg_ hg (pB_ HB.out):w.heap.size≤gb700)<|an_ (nl_ hg (pk_ BK699.out):gb699≠gb700)<|D (by rw [hg];exact Nat.ne_of_gt (blk_lt (pk_ BK699.out)):gb700≠gb699);clear BK699 HB;obtain ⟨BK699,HB,BK700,GW700,GE700,NB699_700,NB700_699⟩:=n_;clear hb hbox hg;(try have:=NB699_700.out);(try have:=NB700_699.out);have hcz10_0:=cells5 BK699.out)|((with_reducible refine gate_callee (f:=44) rfl ?_);refine goesL_ (some 6) rfl rfl Try.func44 (by kernel_rfl) rfl #[.agg #[I L a0_0,I L a0_1,I L a0_2,I L a0_3,I L a0_4]] rfl Z8 ?_;(with_reducible refine (impl_AddrOk.calls a0_0 a0_1 a0_2 a0_3 a0_4 true _ A3.out).mono ?_);rintro e w11 ⟨rfl,hb⟩;refine ⟨_,rfl,?_⟩;have n_:=an_ (blk_below (pk_ BK699.out) hb)<|an_ (blk_below (pk_ BK700.out) hb)<|D (below_step (pB_ HB.out) hb);clear BK699 BK700 HB;obtain ⟨BK699,BK700,HB⟩:=n_;(try clear hb);have hcz12_0:=cells5 BK700.out)|(go_at_call 44;(with_reducible refine (impl_AddrOk.calls a1_0 a1_1 a1_2 a1_3 a1_4 true _ A5.out).mono ?_);rintro e w13 ⟨rfl,hb⟩;have n_:=an_ (blk_below (pk_ BK699.out) hb)<|an_ (blk_below (pk_ BK700.out) hb)<|D (below_step (pB_ HB.out) hb);clear BK699 BK700 HB;obtain ⟨BK699,BK700,HB⟩:=n_;(try clear hb);have hcz14_0:=cells5 BK699.out;have hcz15_0:=cells5 BK700.out))
   go_ret; exact ⟨er_, pB_ HB.out⟩
  ·replace c6 := Bool.eq_false_iff.mpr c6
   subst c6; rw [if_neg (show ¬ (false = true) by decide)] at H; obtain rfl := Option.some.inj H; go_enter Try.func28, Try.ntmps28
   go_wp2_with (first|((with_reducible refine gate_dst (N:=2) rfl ?_);refine bx_ (N:=2) (cs:=#[I L a0_0,I L a0_1,I L a0_2,I L a0_3,I L a0_4]) (t:=25) ?_;intro gb699 hg w16 hbox hb;have n_:=an_ (below_step (pB_ HB.out) hb)<|an_ (hbox)<|an_ (bg_ hg (pB_ HB.out):w.heap.size≤gb699)<|D (bg_ hg (pB_ HB.out):w.heap.size≤gb699);clear HB;obtain ⟨HB,BK699,GW699,GE699⟩:=n_;clear hb hbox hg)|((with_reducible refine gate_dst (N:=3) rfl ?_);refine bx_ (N:=3) (cs:=#[I L a1_0,I L a1_1,I L a1_2,I L a1_3,I L a1_4]) (t:=25) ?_;intro gb700 hg w17 hbox hb;have n_:=an_ (blk_below (pk_ BK699.out) hb)<|an_ (below_step (pB_ HB.out) hb)<|an_ (hbox)<|an_ (bg_ hg (pB_ HB.out):w.heap.size≤gb700)<|an_ (bg_ hg (pB_ HB.out):w.heap.size≤gb700)<|an_ (nl_ hg (pk_ BK699.out):gb699≠gb700)<|D (by rw [hg];exact Nat.ne_of_gt (blk_lt (pk_ BK699.out)):gb700≠gb699);clear BK699 HB;obtain ⟨BK699,HB,BK700,GW700,GE700,NB699_700,NB700_699⟩:=n_;clear hb hbox hg;(try have:=NB699_700.out);(try have:=NB700_699.out);have hcz19_0:=cells5 BK699.out)|((with_reducible refine gate_callee (f:=44) rfl ?_);refine goesL_ (some 6) rfl rfl Try.func44 (by kernel_rfl) rfl #[.agg #[I L a0_0,I L a0_1,I L a0_2,I L a0_3,I L a0_4]] rfl Z8 ?_;(with_reducible refine (impl_AddrOk.calls a0_0 a0_1 a0_2 a0_3 a0_4 true _ A3.out).mono ?_);rintro e w20 ⟨rfl,hb⟩;refine ⟨_,rfl,?_⟩;have n_:=an_ (blk_below (pk_ BK699.out) hb)<|an_ (blk_below (pk_ BK700.out) hb)<|D (below_step (pB_ HB.out) hb);clear BK699 BK700 HB;obtain ⟨BK699,BK700,HB⟩:=n_;(try clear hb);have hcz21_0:=cells5 BK700.out)|(go_at_call 44;(with_reducible refine (impl_AddrOk.calls a1_0 a1_1 a1_2 a1_3 a1_4 false _ A5.out).mono ?_);rintro e w22 ⟨rfl,hb⟩;have n_:=an_ (blk_below (pk_ BK699.out) hb)<|an_ (blk_below (pk_ BK700.out) hb)<|D (below_step (pB_ HB.out) hb);clear BK699 BK700 HB;obtain ⟨BK699,BK700,HB⟩:=n_;(try clear hb)))
   go_ret; exact ⟨er_, pB_ HB.out⟩
 ·replace c4 := Bool.eq_false_iff.mpr c4
  subst c4; rw [if_neg (show ¬ (false = true) by decide)] at H; obtain rfl := Option.some.inj H; go_enter Try.func28, Try.ntmps28
  go_wp2_with (first|((with_reducible refine gate_dst (N:=2) rfl ?_);refine bx_ (N:=2) (cs:=#[I L a0_0,I L a0_1,I L a0_2,I L a0_3,I L a0_4]) (t:=25) ?_;intro gb699 hg w23 hbox hb;have n_:=an_ (below_step (pB_ HB.out) hb)<|an_ (hbox)<|an_ (bg_ hg (pB_ HB.out):w.heap.size≤gb699)<|D (bg_ hg (pB_ HB.out):w.heap.size≤gb699);clear HB;obtain ⟨HB,BK699,GW699,GE699⟩:=n_;clear hb hbox hg)|((with_reducible refine gate_dst (N:=3) rfl ?_);refine bx_ (N:=3) (cs:=#[I L a1_0,I L a1_1,I L a1_2,I L a1_3,I L a1_4]) (t:=25) ?_;intro gb700 hg w24 hbox hb;have n_:=an_ (blk_below (pk_ BK699.out) hb)<|an_ (below_step (pB_ HB.out) hb)<|an_ (hbox)<|an_ (bg_ hg (pB_ HB.out):w.heap.size≤gb700)<|an_ (bg_ hg (pB_ HB.out):w.heap.size≤gb700)<|an_ (nl_ hg (pk_ BK699.out):gb699≠gb700)<|D (by rw [hg];exact Nat.ne_of_gt (blk_lt (pk_ BK699.out)):gb700≠gb699);clear BK699 HB;obtain ⟨BK699,HB,BK700,GW700,GE700,NB699_700,NB700_699⟩:=n_;clear hb hbox hg;(try have:=NB699_700.out);(try have:=NB700_699.out);have hcz26_0:=cells5 BK699.out)|((with_reducible refine gate_callee (f:=44) rfl ?_);refine goesL_ (some 6) rfl rfl Try.func44 (by kernel_rfl) rfl #[.agg #[I L a0_0,I L a0_1,I L a0_2,I L a0_3,I L a0_4]] rfl Z8 ?_;(with_reducible refine (impl_AddrOk.calls a0_0 a0_1 a0_2 a0_3 a0_4 false _ A3.out).mono ?_);rintro e w27 ⟨rfl,hb⟩;refine ⟨_,rfl,?_⟩;have n_:=an_ (blk_below (pk_ BK699.out) hb)<|an_ (blk_below (pk_ BK700.out) hb)<|D (below_step (pB_ HB.out) hb);clear BK699 BK700 HB;obtain ⟨BK699,BK700,HB⟩:=n_;(try clear hb)))
  go_ret; exact ⟨er_, pB_ HB.out⟩

/-! ### impl_isByte: function 29 -/
def impl_isByte.f (a0 : Int) : Option (Bool) := (impl_within.f a0 0 255).bind fun t703 => (some t703)
set_option maxHeartbeats 8000000 in
set_option maxRecDepth 100000 in
theorem impl_isByte.calls (a0 : Int) (r : Bool) (w : World) (h : impl_isByte.f a0 = some r) :
  Calls Try.prog 29 #[I L a0] w fun e w' => e = .returned (.bool r) ∧ Drawn0 w w' := by
 have H : ((impl_within.f a0 0 255).bind fun t703 => (some t703)) = some r := h
 clear h
 obtain ⟨t703, A20, H⟩ := bs_.mp H
 (try dsimp only at H)
 have A2 := D A20
 clear A20
 obtain rfl := Option.some.inj H
 go_enter Try.func29, Try.ntmps29
 go_wp2_with (first|((with_reducible refine gate_callee (f:=31) rfl ?_);refine goesL_ (some 4) rfl rfl Try.func31 (by kernel_rfl) rfl #[I L a0,I L 0,I L 255] rfl Z8 ?_;(with_reducible refine (impl_within.calls a0 0 255 t703 _ A2.out).mono ?_);rintro e w' ⟨rfl,⟨nd,rfl⟩⟩;refine ⟨_,rfl,?_⟩))
 go_ret
 exact ⟨by first | rfl | (simp; done) | (simp [*]; done), by repeat (first | exact Drawn0.refl _ | apply Drawn0.step)⟩

/-! ### impl_isWord: function 45 -/
def impl_isWord.f (a0 : Int) : Option (Bool) := (impl_within.f a0 0 65535).bind fun t704 => (some t704)
set_option maxHeartbeats 8000000 in
set_option maxRecDepth 100000 in
theorem impl_isWord.calls (a0 : Int) (r : Bool) (w : World) (h : impl_isWord.f a0 = some r) :
  Calls Try.prog 45 #[I L a0] w fun e w' => e = .returned (.bool r) ∧ Drawn0 w w' := by
 have H : ((impl_within.f a0 0 65535).bind fun t704 => (some t704)) = some r := h
 clear h
 obtain ⟨t704, A20, H⟩ := bs_.mp H
 (try dsimp only at H)
 have A2 := D A20
 clear A20
 obtain rfl := Option.some.inj H
 go_enter Try.func45, Try.ntmps45
 go_wp2_with (first|((with_reducible refine gate_callee (f:=31) rfl ?_);refine goesL_ (some 4) rfl rfl Try.func31 (by kernel_rfl) rfl #[I L a0,I L 0,I L 65535] rfl Z8 ?_;(with_reducible refine (impl_within.calls a0 0 65535 t704 _ A2.out).mono ?_);rintro e w' ⟨rfl,⟨nd,rfl⟩⟩;refine ⟨_,rfl,?_⟩))
 go_ret
 exact ⟨by first | rfl | (simp; done) | (simp [*]; done), by repeat (first | exact Drawn0.refl _ | apply Drawn0.step)⟩

/-! ### impl_areWords: function 30 -/
def impl_areWords.l0 : Nat → List Int → Int → Int → Option (Bool)
 | 0, _, _, _ => none
 | k + 1,x5,x6,x7=>if x7 < x6 then (if 0≤x7 then (if x7 < (x5.length:Int) then ((impl_isWord.f (rd x5 x7)).bind fun t706=>(if t706=true then (impl_areWords.l0 k x5 x6 (wrap64 (x7 + 1))) else (some false))) else (none)) else (none)) else (some true)
def impl_areWords.f (k : Nat) (l0 : List Int) : Option (Bool) := impl_areWords.l0 k l0 (l0.length : Int) 0
set_option maxHeartbeats 8000000 in
set_option maxRecDepth 100000 in
theorem impl_areWords.calls (k : Nat) (A0 : Option Addr) (c0 : Nat) (l0 : List Int) (r : Bool) (w : World) (hr0 : Kd.C (Kd.int .i64) w A0 l0.length l0) (hc0 : l0.length ≤ c0) (h : impl_areWords.f k l0 = some r) :
  Calls Try.prog 30 #[Y A0 l0.length c0] w fun e w' => e = .returned (.bool r) ∧ Drawn0 w w' := by
 have HR0 := D hr0
 have HC0 := D hc0
 clear hr0 hc0
 have H : (impl_areWords.l0 k l0 (l0.length : Int) 0) = some r := h
 clear h
 have H' := D H
 clear H
 go_enter Try.func30, Try.ntmps30
 go_wp2
 go_loopg [7] k (fun kq v7 w' => ∃ (x7_1 : Int), v7 = I L x7_1 ∧ Aside0 (impl_areWords.l0 kq l0 (l0.length : Int) x7_1 = some r) ∧ Aside0 (kq ≤ k) ∧ Drawn0 w w')
 case atStart => exact ⟨(0), Z17, H', ⟨Nat.le_refl _⟩, by repeat (first | exact Drawn0.refl _ | apply Drawn0.step)⟩
 case round =>
  clear H'; obtain ⟨x7_1, rfl, HA, HK1, ⟨m1, rfl⟩⟩ := hrel
  cases gk with
  | zero => exact absurd HA.out (by simp [impl_areWords.l0])
  | succ k1 =>
   have H := HA.out; clear HA; simp only [impl_areWords.l0] at H
   by_cases c2 : x7_1 < (l0.length : Int)
   ·rw [if_pos c2] at H
    have c2b0 : decide (x7_1 < (l0.length : Int)) = true := decide_eq_true c2; clear c2
    by_cases c3 : 0 ≤ x7_1
    ·rw [if_pos c3] at H
     have c3b0 : decide (0 ≤ x7_1) = true := decide_eq_true c3; clear c3
     by_cases c4 : x7_1 < (l0.length : Int)
     ·rw [if_pos c4] at H
      have c4b0:decide (x7_1 < (l0.length:Int))=true:=decide_eq_true c4;clear c4;obtain ⟨t706,A50,H⟩:=bs_.mp H;(try dsimp only at H);have A5:=D A50;clear A50;have HU6:=D H;clear H;have p705:0≤(x7_1:Int):=od_ Z16;have q705:x7_1 < (l0.length:Int):=od_ Z16;obtain ⟨ad705,e705,hx705_0⟩:=Kd.at_int HR0.out x7_1 p705 q705;cases e705;replace p705:=eq_true p705;replace q705:=eq_true q705
      go_upto_if 13 with (first|((with_reducible refine gate_callee (f:=45) rfl ?_);refine goesL_ (some 12) rfl rfl Try.func45 (by kernel_rfl) rfl #[I L (rd l0 x7_1)] rfl Z8 ?_;(with_reducible refine (impl_isWord.calls (rd l0 x7_1) t706 _ A5.out).mono ?_);rintro e w' ⟨rfl,⟨nd,rfl⟩⟩;refine ⟨_,rfl,?_⟩))
      have H := HU6.out; clear HU6
      by_cases c7 : t706 = true
      ·subst c7
       rw [if_pos rfl] at H; have H' := D H; clear H
       go_wp2
       go_roundg k1
       case measure => have := HK1.out; omega
       case rel => exact ⟨(wrap64 (x7_1 + 1)), Z17, H', ⟨by have := HK1.out; omega⟩, by repeat (first | exact Drawn0.refl _ | apply Drawn0.step)⟩
      ·replace c7 := Bool.eq_false_iff.mpr c7
       subst c7; rw [if_neg (show ¬ (false = true) by decide)] at H; obtain rfl := Option.some.inj H
       go_wp2
       go_ret; exact ⟨by first | rfl | (simp; done) | (simp [*]; done), by repeat (first | exact Drawn0.refl _ | apply Drawn0.step)⟩
     ·rw [if_neg c4] at H
      exact absurd H (by simp)
    ·rw [if_neg c3] at H
     exact absurd H (by simp)
   ·rw [if_neg c2] at H
    have c2b0 : decide (x7_1 < (l0.length : Int)) = false := decide_eq_false c2; clear c2; obtain rfl := Option.some.inj H
    go_wp2
    go_ret; exact ⟨by first | rfl | (simp; done) | (simp [*]; done), by repeat (first | exact Drawn0.refl _ | apply Drawn0.step)⟩

/-! ### impl_KeyOk: function 16 -/
def impl_KeyOk.f (k : Nat) (a0_0 a0_1 a0_2 a0_3 a0_4 a0_5 a0_6 a0_7 a0_8 a0_9 a0_10 a0_11 a0_12 : Int) : Option (Bool) := (impl_areBoth.f a0_0 a0_1 a0_2 a0_3 a0_4 a0_5 a0_6 a0_7 a0_8 a0_9).bind fun t708 => (if t708 = true then ((impl_isByte.f a0_10).bind fun t709 => (if t709 = true then ((impl_areWords.f k (([a0_11, a0_12] : List Int))).bind fun t713 => (some t713)) else (some false))) else (some false))
set_option maxHeartbeats 8000000 in
set_option maxRecDepth 100000 in
theorem impl_KeyOk.calls (k : Nat) (a0_0 a0_1 a0_2 a0_3 a0_4 a0_5 a0_6 a0_7 a0_8 a0_9 a0_10 a0_11 a0_12 : Int) (r : Bool) (w : World) (h : impl_KeyOk.f k a0_0 a0_1 a0_2 a0_3 a0_4 a0_5 a0_6 a0_7 a0_8 a0_9 a0_10 a0_11 a0_12 = some r) :
  Calls Try.prog 16 #[.agg #[I L a0_0,I L a0_1,I L a0_2,I L a0_3,I L a0_4,I L a0_5,I L a0_6,I L a0_7,I L a0_8,I L a0_9,I L a0_10,I L a0_11,I L a0_12]] w fun e w'=>e=.returned (.bool r)∧Below w.heap.size w w':=by
 have hu31 := Try.underlying31
 have hu25 := Try.underlying25
 have HB := D (Below.refl w.heap.size w)
 have H:((impl_areBoth.f a0_0 a0_1 a0_2 a0_3 a0_4 a0_5 a0_6 a0_7 a0_8 a0_9).bind fun t708=>(if t708=true then ((impl_isByte.f a0_10).bind fun t709=>(if t709=true then ((impl_areWords.f k (([a0_11,a0_12]:List Int))).bind fun t713=>(some t713)) else (some false))) else (some false)))=some r:=h
 clear h
 obtain ⟨t708, A20, H⟩ := bs_.mp H
 (try dsimp only at H)
 have A2 := D A20
 clear A20
 by_cases c3 : t708 = true
 ·subst c3
  rw [if_pos rfl] at H; obtain ⟨t709, A40, H⟩ := bs_.mp H; (try dsimp only at H); have A4 := D A40; clear A40
  by_cases c5 : t709 = true
  ·subst c5
   rw [if_pos rfl] at H; obtain ⟨y710, hy710⟩ : ∃ y_ : List Int, y_ = (([a0_11, a0_12] : List Int)) := ⟨_, rfl⟩
   replace H:((impl_areWords.f k y710).bind fun t713=>(some t713))=some r:=by first|(rw [hy710];with_reducible exact H)|(have H2_:=(Option.bind_some _ _).symm.trans H;rw [hy710];with_reducible exact H2_)|(have H2_:=(Option.bind_some _ _).symm.trans H;with_reducible exact H2_)|with_reducible exact H|(rw [hy710];exact H)|exact H
   have Ny710:=D hy710;clear hy710;obtain ⟨t713,A60,H⟩:=bs_.mp H;(try dsimp only at H);have A6:=D A60;clear A60;obtain rfl:=Option.some.inj H;go_enter Try.func16,Try.ntmps16
   go_wp2_with (first|((with_reducible refine gld_ 25 rfl ?_);(first|refine la25o0_ ?_|refine la25o5_ ?_))|((with_reducible refine gld_ 3 rfl ?_);refine lc3_ ?_)|((with_reducible refine gst_ 31 rfl ?_);refine sa31_ ?_)|((with_reducible refine gld_ 31 rfl ?_);refine la31_ ?_)|((with_reducible refine gate_dst (N:=1) rfl ?_);(try (refine gate_guard (by rfl) ?_;dsimp only));refine bx_ (N:=1) (cs:=#[I L a0_0,I L a0_1,I L a0_2,I L a0_3,I L a0_4,I L a0_5,I L a0_6,I L a0_7,I L a0_8,I L a0_9,I L a0_10,I L a0_11,I L a0_12]) (t:=31) ?_;intro gb707 hg w7 hbox hb;have n_:=an_ (below_step (pB_ HB.out) hb)<|an_ (hbox)<|an_ (bg_ hg (pB_ HB.out):w.heap.size≤gb707)<|D (bg_ hg (pB_ HB.out):w.heap.size≤gb707);clear HB;obtain ⟨HB,BK707,GW707,GE707⟩:=n_;clear hb hbox hg;obtain ⟨hcz8_0,hcz8_1,hcz8_2,hcz8_3,hcz8_4,hcz8_5,hcz8_6,hcz8_7,hcz8_8,hcz8_9,hcz8_10,hcz8_11,hcz8_12,hfz8_0,hfz8_1,hfz8_2,hfz8_3,hfz8_4,hfz8_5,hfz8_6,hfz8_7,hfz8_8,hfz8_9,hfz8_10,hfz8_11,hfz8_12⟩:=cells13 BK707.out)|((with_reducible refine gate_callee (f:=28) rfl ?_);refine goesL_ (some 7) rfl rfl Try.func28 (by kernel_rfl) rfl #[.agg #[I L a0_0,I L a0_1,I L a0_2,I L a0_3,I L a0_4],.agg #[I L a0_5,I L a0_6,I L a0_7,I L a0_8,I L a0_9]] rfl Z8 ?_;(with_reducible refine (impl_areBoth.calls a0_0 a0_1 a0_2 a0_3 a0_4 a0_5 a0_6 a0_7 a0_8 a0_9 true _ A2.out).mono ?_);rintro e w9 ⟨rfl,hb⟩;refine ⟨_,rfl,?_⟩;have n_:=an_ (blk_below (pk_ BK707.out) hb)<|D (below_step (pB_ HB.out) hb);clear BK707 HB;obtain ⟨BK707,HB⟩:=n_;(try clear hb);obtain ⟨hcz10_0,hcz10_1,hcz10_2,hcz10_3,hcz10_4,hcz10_5,hcz10_6,hcz10_7,hcz10_8,hcz10_9,hcz10_10,hcz10_11,hcz10_12,hfz10_0,hfz10_1,hfz10_2,hfz10_3,hfz10_4,hfz10_5,hfz10_6,hfz10_7,hfz10_8,hfz10_9,hfz10_10,hfz10_11,hfz10_12⟩:=cells13 BK707.out)|(go_at_call 29;(with_reducible refine (impl_isByte.calls a0_10 true _ A4.out).mono ?_);rintro e w' ⟨rfl,⟨nd,rfl⟩⟩)|((with_reducible refine gate_dst (N:=18) rfl ?_);(try (refine gate_guard (by rfl) ?_;dsimp only));refine Kd.R_lit (Kd.int .i64) _ 3 ?hg (N:=18) ?hd (xs:=([a0_11,a0_12]:List Int)) (inner:=[I L a0_11,I L a0_12]) (ok:=fun _=>True) (okp:=fun _=>True) ?hr ?hp (fun _ hk=>hk) trivial (Below.refl _ _) (Nat.le_refl _) (by simp) ?_;(case hd=>rfl);(case hg=>rfl);(case hr=>first|(go_simp;done)|(go_simp;rfl));(case hp=>exact (Reps.one (show Kd.M (Kd.int .i64) _ _ _ a0_11 [I L a0_11] from rfl) (Reps.one (show Kd.M (Kd.int .i64) _ _ _ a0_12 [I L a0_12] from rfl) (Reps.none _ _))));intro v711 w11 ho12 hb hg_ hnew_;clear hg_ hnew_;(first|rw [← Ny710.out] at ho12|(simp only [Int.reduceToNat] at ho12;rw [← Ny710.out] at ho12));have n_:=an_ (Kd.R_lower ho12 (below_size (pB_ HB.out)))<|an_ (blk_below (pk_ BK707.out) hb)<|D (below_step (pB_ HB.out) hb);clear BK707 HB;obtain ⟨HO712,BK707,HB⟩:=n_;clear hb ho12;obtain ⟨Ao13,co13,eo13⟩:=Kd.R_slice HO712.out;subst eo13)|(go_at_call 30;(with_reducible refine (impl_areWords.calls k _ _ y710 t713 _ ?side1 ?side2 A6.out).mono ?_);(case side1=>exact pC_ ((Kd.R_reads' HO712.out).2.2));(case side2=>exact (Kd.R_reads' HO712.out).2.1);rintro e w' ⟨rfl,⟨nd,rfl⟩⟩))
   go_ret; exact ⟨er_, pB_ HB.out⟩
  ·replace c5 := Bool.eq_false_iff.mpr c5
   subst c5; rw [if_neg (show ¬ (false = true) by decide)] at H; obtain rfl := Option.some.inj H; go_enter Try.func16, Try.ntmps16
   go_wp2_with (first|((with_reducible refine gld_ 25 rfl ?_);(first|refine la25o0_ ?_|refine la25o5_ ?_))|((with_reducible refine gld_ 3 rfl ?_);refine lc3_ ?_)|((with_reducible refine gst_ 31 rfl ?_);refine sa31_ ?_)|((with_reducible refine gld_ 31 rfl ?_);refine la31_ ?_)|((with_reducible refine gate_dst (N:=1) rfl ?_);(try (refine gate_guard (by rfl) ?_;dsimp only));refine bx_ (N:=1) (cs:=#[I L a0_0,I L a0_1,I L a0_2,I L a0_3,I L a0_4,I L a0_5,I L a0_6,I L a0_7,I L a0_8,I L a0_9,I L a0_10,I L a0_11,I L a0_12]) (t:=31) ?_;intro gb707 hg w14 hbox hb;have n_:=an_ (below_step (pB_ HB.out) hb)<|an_ (hbox)<|an_ (bg_ hg (pB_ HB.out):w.heap.size≤gb707)<|D (bg_ hg (pB_ HB.out):w.heap.size≤gb707);clear HB;obtain ⟨HB,BK707,GW707,GE707⟩:=n_;clear hb hbox hg;obtain ⟨hcz15_0,hcz15_1,hcz15_2,hcz15_3,hcz15_4,hcz15_5,hcz15_6,hcz15_7,hcz15_8,hcz15_9,hcz15_10,hcz15_11,hcz15_12,hfz15_0,hfz15_1,hfz15_2,hfz15_3,hfz15_4,hfz15_5,hfz15_6,hfz15_7,hfz15_8,hfz15_9,hfz15_10,hfz15_11,hfz15_12⟩:=cells13 BK707.out)|((with_reducible refine gate_callee (f:=28) rfl ?_);refine goesL_ (some 7) rfl rfl Try.func28 (by kernel_rfl) rfl #[.agg #[I L a0_0,I L a0_1,I L a0_2,I L a0_3,I L a0_4],.agg #[I L a0_5,I L a0_6,I L a0_7,I L a0_8,I L a0_9]] rfl Z8 ?_;(with_reducible refine (impl_areBoth.calls a0_0 a0_1 a0_2 a0_3 a0_4 a0_5 a0_6 a0_7 a0_8 a0_9 true _ A2.out).mono ?_);rintro e w16 ⟨rfl,hb⟩;refine ⟨_,rfl,?_⟩;have n_:=an_ (blk_below (pk_ BK707.out) hb)<|D (below_step (pB_ HB.out) hb);clear BK707 HB;obtain ⟨BK707,HB⟩:=n_;(try clear hb);obtain ⟨hcz17_0,hcz17_1,hcz17_2,hcz17_3,hcz17_4,hcz17_5,hcz17_6,hcz17_7,hcz17_8,hcz17_9,hcz17_10,hcz17_11,hcz17_12,hfz17_0,hfz17_1,hfz17_2,hfz17_3,hfz17_4,hfz17_5,hfz17_6,hfz17_7,hfz17_8,hfz17_9,hfz17_10,hfz17_11,hfz17_12⟩:=cells13 BK707.out)|(go_at_call 29;(with_reducible refine (impl_isByte.calls a0_10 false _ A4.out).mono ?_);rintro e w' ⟨rfl,⟨nd,rfl⟩⟩))
   go_ret; exact ⟨er_, pB_ HB.out⟩
 ·replace c3 := Bool.eq_false_iff.mpr c3
  subst c3; rw [if_neg (show ¬ (false = true) by decide)] at H; obtain rfl := Option.some.inj H; go_enter Try.func16, Try.ntmps16
  go_wp2_with (first|((with_reducible refine gld_ 25 rfl ?_);(first|refine la25o0_ ?_|refine la25o5_ ?_))|((with_reducible refine gld_ 3 rfl ?_);refine lc3_ ?_)|((with_reducible refine gst_ 31 rfl ?_);refine sa31_ ?_)|((with_reducible refine gld_ 31 rfl ?_);refine la31_ ?_)|((with_reducible refine gate_dst (N:=1) rfl ?_);(try (refine gate_guard (by rfl) ?_;dsimp only));refine bx_ (N:=1) (cs:=#[I L a0_0,I L a0_1,I L a0_2,I L a0_3,I L a0_4,I L a0_5,I L a0_6,I L a0_7,I L a0_8,I L a0_9,I L a0_10,I L a0_11,I L a0_12]) (t:=31) ?_;intro gb707 hg w18 hbox hb;have n_:=an_ (below_step (pB_ HB.out) hb)<|an_ (hbox)<|an_ (bg_ hg (pB_ HB.out):w.heap.size≤gb707)<|D (bg_ hg (pB_ HB.out):w.heap.size≤gb707);clear HB;obtain ⟨HB,BK707,GW707,GE707⟩:=n_;clear hb hbox hg;obtain ⟨hcz19_0,hcz19_1,hcz19_2,hcz19_3,hcz19_4,hcz19_5,hcz19_6,hcz19_7,hcz19_8,hcz19_9,hcz19_10,hcz19_11,hcz19_12,hfz19_0,hfz19_1,hfz19_2,hfz19_3,hfz19_4,hfz19_5,hfz19_6,hfz19_7,hfz19_8,hfz19_9,hfz19_10,hfz19_11,hfz19_12⟩:=cells13 BK707.out)|((with_reducible refine gate_callee (f:=28) rfl ?_);refine goesL_ (some 7) rfl rfl Try.func28 (by kernel_rfl) rfl #[.agg #[I L a0_0,I L a0_1,I L a0_2,I L a0_3,I L a0_4],.agg #[I L a0_5,I L a0_6,I L a0_7,I L a0_8,I L a0_9]] rfl Z8 ?_;(with_reducible refine (impl_areBoth.calls a0_0 a0_1 a0_2 a0_3 a0_4 a0_5 a0_6 a0_7 a0_8 a0_9 false _ A2.out).mono ?_);rintro e w20 ⟨rfl,hb⟩;refine ⟨_,rfl,?_⟩;have n_:=an_ (blk_below (pk_ BK707.out) hb)<|D (below_step (pB_ HB.out) hb);clear BK707 HB;obtain ⟨BK707,HB⟩:=n_;(try clear hb)))
  go_ret; exact ⟨er_, pB_ HB.out⟩

/-! ### impl_Turned: function 7 -/
def impl_Turned.f (k : Nat) (a0_0 a0_1 a0_2 a0_3 a0_4 a0_5 a0_6 a0_7 a0_8 a0_9 a0_10 a0_11 a0_12 : Int) : Option (Int × Int × Int × Int × Int × Int × Int × Int × Int × Int × Int × Int × Int) := (impl_KeyOk.f k a0_0 a0_1 a0_2 a0_3 a0_4 a0_5 a0_6 a0_7 a0_8 a0_9 a0_10 a0_11 a0_12).bind fun t716 => (if t716 = true then (some (a0_5, a0_6, a0_7, a0_8, a0_9, a0_0, a0_1, a0_2, a0_3, a0_4, a0_10, a0_12, a0_11)) else (some (0, 0, 0, 0, 0, 0, 0, 0, 0, 0, 0, 0, 0)))
set_option maxHeartbeats 8000000 in
set_option maxRecDepth 100000 in
theorem impl_Turned.calls (k : Nat) (a0_0 a0_1 a0_2 a0_3 a0_4 a0_5 a0_6 a0_7 a0_8 a0_9 a0_10 a0_11 a0_12 r1 r2 r3 r4 r5 r6 r7 r8 r9 r10 r11 r12 r13 : Int) (w : World) (h : impl_Turned.f k a0_0 a0_1 a0_2 a0_3 a0_4 a0_5 a0_6 a0_7 a0_8 a0_9 a0_10 a0_11 a0_12 = some (r1, r2, r3, r4, r5, r6, r7, r8, r9, r10, r11, r12, r13)) :
  Calls Try.prog 7 #[.agg #[I L a0_0,I L a0_1,I L a0_2,I L a0_3,I L a0_4,I L a0_5,I L a0_6,I L a0_7,I L a0_8,I L a0_9,I L a0_10,I L a0_11,I L a0_12]] w fun e w'=>e=.returned (.agg #[I L r1,I L r2,I L r3,I L r4,I L r5,I L r6,I L r7,I L r8,I L r9,I L r10,I L r11,I L r12,I L r13])∧Below w.heap.size w w':=by
 have hu31 := Try.underlying31
 have hu25 := Try.underlying25
 have HB := D (Below.refl w.heap.size w)
 have H:((impl_KeyOk.f k a0_0 a0_1 a0_2 a0_3 a0_4 a0_5 a0_6 a0_7 a0_8 a0_9 a0_10 a0_11 a0_12).bind fun t716=>(if t716=true then (some (a0_5,a0_6,a0_7,a0_8,a0_9,a0_0,a0_1,a0_2,a0_3,a0_4,a0_10,a0_12,a0_11)) else (some (0,0,0,0,0,0,0,0,0,0,0,0,0))))=some (r1,r2,r3,r4,r5,r6,r7,r8,r9,r10,r11,r12,r13):=h
 clear h
 obtain ⟨t716, A20, H⟩ := bs_.mp H
 (try dsimp only at H)
 have A2 := D A20
 clear A20
 have HU3 := D H
 clear H
 go_enter Try.func7, Try.ntmps7
 go_upto_if 5 with (first|((with_reducible refine gbd_ 31 rfl ?_);refine ba31_1 ?_)|((with_reducible refine gld_ 25 rfl ?_);(first|refine la25o0_ ?_|refine la25o5_ ?_))|((with_reducible refine gld_ 3 rfl ?_);refine lc3_ ?_)|((with_reducible refine gst_ 31 rfl ?_);refine sa31_ ?_)|((with_reducible refine gld_ 31 rfl ?_);refine la31_ ?_)|((with_reducible refine gate_dst (N:=1) rfl ?_);refine bx_ (N:=1) (cs:=#[I L a0_0,I L a0_1,I L a0_2,I L a0_3,I L a0_4,I L a0_5,I L a0_6,I L a0_7,I L a0_8,I L a0_9,I L a0_10,I L a0_11,I L a0_12]) (t:=31) ?_;intro gb714 hg w4 hbox hb;have n_:=an_ (below_step (pB_ HB.out) hb)<|an_ (hbox)<|an_ (bg_ hg (pB_ HB.out):w.heap.size≤gb714)<|D (bg_ hg (pB_ HB.out):w.heap.size≤gb714);clear HB;obtain ⟨HB,BK714,GW714,GE714⟩:=n_;clear hb hbox hg)|((with_reducible refine gate_dst (N:=2) rfl ?_);refine bx_ (N:=2) (cs:=#[I L 0,I L 0,I L 0,I L 0,I L 0,I L 0,I L 0,I L 0,I L 0,I L 0,I L 0,I L 0,I L 0]) (t:=31) ?_;intro gb715 hg w5 hbox hb;have n_:=an_ (blk_below (pk_ BK714.out) hb)<|an_ (below_step (pB_ HB.out) hb)<|an_ (hbox)<|an_ (bg_ hg (pB_ HB.out):w.heap.size≤gb715)<|an_ (bg_ hg (pB_ HB.out):w.heap.size≤gb715)<|an_ (nl_ hg (pk_ BK714.out):gb714≠gb715)<|D (by rw [hg];exact Nat.ne_of_gt (blk_lt (pk_ BK714.out)):gb715≠gb714);clear BK714 HB;obtain ⟨BK714,HB,BK715,GW715,GE715,NB714_715,NB715_714⟩:=n_;clear hb hbox hg;(try have:=NB714_715.out);(try have:=NB715_714.out))|((with_reducible refine gate_callee (f:=16) rfl ?_);refine goesL_ (some 4) rfl rfl Try.func16 (by kernel_rfl) rfl #[.agg #[I L a0_0,I L a0_1,I L a0_2,I L a0_3,I L a0_4,I L a0_5,I L a0_6,I L a0_7,I L a0_8,I L a0_9,I L a0_10,I L a0_11,I L a0_12]] rfl Z8 ?_;(with_reducible refine (impl_KeyOk.calls k a0_0 a0_1 a0_2 a0_3 a0_4 a0_5 a0_6 a0_7 a0_8 a0_9 a0_10 a0_11 a0_12 t716 _ A2.out).mono ?_);rintro e w8 ⟨rfl,hb⟩;refine ⟨_,rfl,?_⟩;have n_:=an_ (blk_below (pk_ BK714.out) hb)<|an_ (blk_below (pk_ BK715.out) hb)<|D (below_step (pB_ HB.out) hb);clear BK714 BK715 HB;obtain ⟨BK714,BK715,HB⟩:=n_;(try clear hb)))
 have H := HU3.out
 clear HU3
 by_cases c9 : t716 = true
 ·subst c9
  rw [if_pos rfl] at H;simp only [Option.some.injEq,Prod.mk.injEq] at H;obtain ⟨rfl,rfl,rfl,rfl,rfl,rfl,rfl,rfl,rfl,rfl,rfl,rfl,rfl⟩:=H;(try have:=NB714_715.out);(try have:=NB715_714.out)
  go_wp2_with (first|((with_reducible refine gbd_ 31 rfl ?_);refine ba31_1 ?_)|((with_reducible refine gld_ 25 rfl ?_);(first|refine la25o0_ ?_|refine la25o5_ ?_))|((with_reducible refine gld_ 3 rfl ?_);refine lc3_ ?_)|((with_reducible refine gst_ 31 rfl ?_);refine sa31_ ?_)|((with_reducible refine gld_ 31 rfl ?_);refine la31_ ?_))
  refine bodyPost_ret (results_cell_row rfl _ _ gb715 31 #[I L a0_5,I L a0_6,I L a0_7,I L a0_8,I L a0_9,I L a0_0,I L a0_1,I L a0_2,I L a0_3,I L a0_4,I L a0_10,I L a0_12,I L a0_11] (0,0) _ rfl (by exact pP_ BK715.out) Try.underlying31 rfl (by kernel_rfl)) rfl ?_;exact ⟨er_,pB_ HB.out⟩
 ·replace c9 := Bool.eq_false_iff.mpr c9
  subst c9;rw [if_neg (show ¬ (false=true) by decide)] at H;simp only [Option.some.injEq,Prod.mk.injEq] at H;obtain ⟨rfl,rfl,rfl,rfl,rfl,rfl,rfl,rfl,rfl,rfl,rfl,rfl,rfl⟩:=H;(try have:=NB715_714.out);(try have:=NB714_715.out)
  go_wp2_with (first|((with_reducible refine gbd_ 31 rfl ?_);refine ba31_1 ?_)|((with_reducible refine gld_ 25 rfl ?_);(first|refine la25o0_ ?_|refine la25o5_ ?_))|((with_reducible refine gld_ 3 rfl ?_);refine lc3_ ?_)|((with_reducible refine gst_ 31 rfl ?_);refine sa31_ ?_)|((with_reducible refine gld_ 31 rfl ?_);refine la31_ ?_))
  refine bodyPost_ret (results_cell_row rfl _ _ gb715 31 #[I L 0,I L 0,I L 0,I L 0,I L 0,I L 0,I L 0,I L 0,I L 0,I L 0,I L 0,I L 0,I L 0] (0,0) _ rfl (by exact pP_ BK715.out) Try.underlying31 rfl (by kernel_rfl)) rfl ?_;exact ⟨er_,pB_ HB.out⟩

/-! ### impl_isAny: function 46 -/
def impl_isAny.f (a0_0 a0_1 a0_2 a0_3 a0_4 a0_5 : Int) : Option (Bool) := some ((a0_0 == 0 && (a0_1 == 0 && (a0_2 == 0 && (a0_3 == 0 && (a0_4 == 0))))) && (a0_5 == 0))
set_option maxHeartbeats 8000000 in
set_option maxRecDepth 100000 in
theorem impl_isAny.calls (a0_0 a0_1 a0_2 a0_3 a0_4 a0_5 : Int) (r : Bool) (w : World) (h : impl_isAny.f a0_0 a0_1 a0_2 a0_3 a0_4 a0_5 = some r) :
  Calls Try.prog 46 #[.agg #[I L a0_0, I L a0_1, I L a0_2, I L a0_3, I L a0_4, I L a0_5]] w fun e w' => e = .returned (.bool r) ∧ Below w.heap.size w w' := by
 have hu27 := Try.underlying27
 have HB := D (Below.refl w.heap.size w)
 have H : (some ((a0_0 == 0 && (a0_1 == 0 && (a0_2 == 0 && (a0_3 == 0 && (a0_4 == 0))))) && (a0_5 == 0))) = some r := h
 clear h
 obtain rfl := Option.some.inj H
 go_enter Try.func46, Try.ntmps46
 go_wp2_with (first|((with_reducible refine gate_dst (N:=1) rfl ?_);refine bx_ (N:=1) (cs:=#[I L a0_0,I L a0_1,I L a0_2,I L a0_3,I L a0_4,I L a0_5]) (t:=27) ?_;intro gb717 hg w2 hbox hb;have n_:=an_ (below_step (pB_ HB.out) hb)<|an_ (hbox)<|an_ (bg_ hg (pB_ HB.out):w.heap.size≤gb717)<|D (bg_ hg (pB_ HB.out):w.heap.size≤gb717);clear HB;obtain ⟨HB,BK717,GW717,GE717⟩:=n_;clear hb hbox hg;have hcz3_0:=cells6 BK717.out))
 go_ret
 exact ⟨er_, pB_ HB.out⟩

/-! ### impl_bitsOf: function 47 -/
def impl_bitsOf.f (a0_0 a0_1 a0_2 a0_3 a0_4 : Int) : Option (Int) := if a0_0 = 4 then (some 32) else (some 128)
set_option maxHeartbeats 8000000 in
set_option maxRecDepth 100000 in
theorem impl_bitsOf.calls (a0_0 a0_1 a0_2 a0_3 a0_4 r : Int) (w : World) (h : impl_bitsOf.f a0_0 a0_1 a0_2 a0_3 a0_4 = some r) :
  Calls Try.prog 47 #[.agg #[I L a0_0, I L a0_1, I L a0_2, I L a0_3, I L a0_4]] w fun e w' => e = .returned (I L r) ∧ Below w.heap.size w w' := by
 have hu25 := Try.underlying25
 have HB := D (Below.refl w.heap.size w)
 have H : (if a0_0 = 4 then (some 32) else (some 128)) = some r := h
 clear h
 have HU2 := D H
 clear H
 go_enter Try.func47, Try.ntmps47
 go_upto_if 5 with (first|((with_reducible refine gate_dst (N:=1) rfl ?_);refine bx_ (N:=1) (cs:=#[I L a0_0,I L a0_1,I L a0_2,I L a0_3,I L a0_4]) (t:=25) ?_;intro gb718 hg w3 hbox hb;have n_:=an_ (below_step (pB_ HB.out) hb)<|an_ (hbox)<|an_ (bg_ hg (pB_ HB.out):w.heap.size≤gb718)<|D (bg_ hg (pB_ HB.out):w.heap.size≤gb718);clear HB;obtain ⟨HB,BK718,GW718,GE718⟩:=n_;clear hb hbox hg;have hcz4_0:=cells5 BK718.out))
 have H := HU2.out
 clear HU2
 by_cases c5 : a0_0 = 4
 ·rw [if_pos c5] at H
  have c5b0:(a0_0 == 4)=true:=beq_iff_eq.mpr c5;have c5b1:(a0_0 != 4)=false:=bne_eq_false_iff_eq.mpr c5;clear c5;refine rw_ c5b0 ?_;obtain rfl:=Option.some.inj H
  go_wp2
  go_ret; exact ⟨er_, pB_ HB.out⟩
 ·rw [if_neg c5] at H
  have c5b0:(a0_0 == 4)=false:=beq_eq_false_iff_ne.mpr c5;have c5b1:(a0_0 != 4)=true:=bne_iff_ne.mpr c5;refine rw_ c5b0 ?_;obtain rfl:=Option.some.inj H
  go_wp2
  go_ret; exact ⟨er_, pB_ HB.out⟩

end Go.Proofs.Ytjhgkonacdimfaa.PFnTurnedKey
