-- by a program of this session's, over the kit's words
import Derived.Test.YtjhgkonacdimfaaPZFnTurnedKey
import Derived.Test.YtjhgkonacdimfaaPFnTurnedKeyx0
import Derived.Test.YtjhgkonacdimfaaPFnTurnedKeyx19
namespace Go.Proofs.Ytjhgkonacdimfaa.PFnTurnedKey
open Go.RowKit Go.Proofs.YtjhgkonacdimfaaW.PrintWords Go.Proofs.YtjhgkonacdimfaaW.PrintLast Go.Proofs.YtjhgkonacdimfaaW.PrintMore Go.Proofs.YtjhgkonacdimfaaV Go.Proofs.Ytjhgkonacdimfaa.ZFnTurnedKey
open Go.Value renaming int → I, slice → Y
open Go.IntKind renaming i64 → L
open Aside0 renaming mk → D
open Option renaming bind_eq_some_iff → bs_
attribute [local go_sem] max2_int min2_int max_two min_two max_three min_three max_four min_four   -- for this text's walks alone
set_option linter.unusedVariables false
set_option linter.unusedSimpArgs false

/-! ### spec_RuleOk: function 19 -/
def spec_RuleOk.j0 : Nat → Bool → Int → Int → Int → Int → Int → Int → Int → Int → Int → Int → Int → Int → Int → Int → Int → Int → Int → Int → Int → Int → Int → Option (Bool)
 | 0, _, _, _, _, _, _, _, _, _, _, _, _, _, _, _, _, _, _, _, _, _, _ => none
 | k + 1,x32,x844000,x844001,x844002,x844003,x844004,x844005,x844006,x844007,x844008,x844009,x844010,x844011,x844012,x844013,x844014,x844015,x844016,x844017,x844018,x844019,x844020=>if x32=true then (some false) else ((spec_l09Range.f x844014 x844015).bind fun t846=>(if t846=true then ((spec_l09Range.f x844016 x844017).bind fun t847=>(if t847=true then (if x844018 ≥ 1 then (if x844018≤8 then (if x844019 ≥ 1 then (if x844019≤10 then (if x844020 ≥ 1 then (some (decide (x844020≤8))) else (some false)) else (some false)) else (some false)) else (some false)) else (some false)) else (some false))) else (some false)))
def spec_RuleOk.f (k : Nat) (a0_0 a0_1 a0_2 a0_3 a0_4 a0_5 a0_6 a0_7 a0_8 a0_9 a0_10 a0_11 a0_12 a0_13 a0_14 a0_15 a0_16 a0_17 a0_18 a0_19 a0_20 : Int) : Option (Bool) := if a0_0 < 1 then (spec_RuleOk.j0 k true a0_0 a0_1 a0_2 a0_3 a0_4 a0_5 a0_6 a0_7 a0_8 a0_9 a0_10 a0_11 a0_12 a0_13 a0_14 a0_15 a0_16 a0_17 a0_18 a0_19 a0_20) else (if a0_0 > 9999 then (spec_RuleOk.j0 k true a0_0 a0_1 a0_2 a0_3 a0_4 a0_5 a0_6 a0_7 a0_8 a0_9 a0_10 a0_11 a0_12 a0_13 a0_14 a0_15 a0_16 a0_17 a0_18 a0_19 a0_20) else ((spec_PrefixOk.f k a0_1 a0_2 a0_3 a0_4 a0_5 a0_6).bind fun t844 => (if t844 = true then ((spec_PrefixOk.f k a0_7 a0_8 a0_9 a0_10 a0_11 a0_12).bind fun t845 => (if t845 = true then (if a0_13 < (-1) then (spec_RuleOk.j0 k true a0_0 a0_1 a0_2 a0_3 a0_4 a0_5 a0_6 a0_7 a0_8 a0_9 a0_10 a0_11 a0_12 a0_13 a0_14 a0_15 a0_16 a0_17 a0_18 a0_19 a0_20) else (spec_RuleOk.j0 k (decide (a0_13 > 255)) a0_0 a0_1 a0_2 a0_3 a0_4 a0_5 a0_6 a0_7 a0_8 a0_9 a0_10 a0_11 a0_12 a0_13 a0_14 a0_15 a0_16 a0_17 a0_18 a0_19 a0_20)) else (spec_RuleOk.j0 k true a0_0 a0_1 a0_2 a0_3 a0_4 a0_5 a0_6 a0_7 a0_8 a0_9 a0_10 a0_11 a0_12 a0_13 a0_14 a0_15 a0_16 a0_17 a0_18 a0_19 a0_20))) else (spec_RuleOk.j0 k true a0_0 a0_1 a0_2 a0_3 a0_4 a0_5 a0_6 a0_7 a0_8 a0_9 a0_10 a0_11 a0_12 a0_13 a0_14 a0_15 a0_16 a0_17 a0_18 a0_19 a0_20))))
set_option maxHeartbeats 8000000 in
set_option maxRecDepth 100000 in
theorem spec_RuleOk.calls (k : Nat) (a0_0 a0_1 a0_2 a0_3 a0_4 a0_5 a0_6 a0_7 a0_8 a0_9 a0_10 a0_11 a0_12 a0_13 a0_14 a0_15 a0_16 a0_17 a0_18 a0_19 a0_20 : Int) (r : Bool) (w : World) (h : spec_RuleOk.f k a0_0 a0_1 a0_2 a0_3 a0_4 a0_5 a0_6 a0_7 a0_8 a0_9 a0_10 a0_11 a0_12 a0_13 a0_14 a0_15 a0_16 a0_17 a0_18 a0_19 a0_20 = some r) :
  Calls Try.prog 19 #[.agg #[I L a0_0,I L a0_1,I L a0_2,I L a0_3,I L a0_4,I L a0_5,I L a0_6,I L a0_7,I L a0_8,I L a0_9,I L a0_10,I L a0_11,I L a0_12,I L a0_13,I L a0_14,I L a0_15,I L a0_16,I L a0_17,I L a0_18,I L a0_19,I L a0_20]] w fun e w'=>e=.returned (.bool r)∧Below w.heap.size w w':=by
 have hu29 := Try.underlying29
 have hu27 := Try.underlying27
 have HB := D (Below.refl w.heap.size w)
 have H:(if a0_0 < 1 then (spec_RuleOk.j0 k true a0_0 a0_1 a0_2 a0_3 a0_4 a0_5 a0_6 a0_7 a0_8 a0_9 a0_10 a0_11 a0_12 a0_13 a0_14 a0_15 a0_16 a0_17 a0_18 a0_19 a0_20) else (if a0_0 > 9999 then (spec_RuleOk.j0 k true a0_0 a0_1 a0_2 a0_3 a0_4 a0_5 a0_6 a0_7 a0_8 a0_9 a0_10 a0_11 a0_12 a0_13 a0_14 a0_15 a0_16 a0_17 a0_18 a0_19 a0_20) else ((spec_PrefixOk.f k a0_1 a0_2 a0_3 a0_4 a0_5 a0_6).bind fun Oa=>(if Oa=true then ((spec_PrefixOk.f k a0_7 a0_8 a0_9 a0_10 a0_11 a0_12).bind fun Ua=>(if Ua=true then (if a0_13 < (-1) then (spec_RuleOk.j0 k true a0_0 a0_1 a0_2 a0_3 a0_4 a0_5 a0_6 a0_7 a0_8 a0_9 a0_10 a0_11 a0_12 a0_13 a0_14 a0_15 a0_16 a0_17 a0_18 a0_19 a0_20) else (spec_RuleOk.j0 k (decide (a0_13 > 255)) a0_0 a0_1 a0_2 a0_3 a0_4 a0_5 a0_6 a0_7 a0_8 a0_9 a0_10 a0_11 a0_12 a0_13 a0_14 a0_15 a0_16 a0_17 a0_18 a0_19 a0_20)) else (spec_RuleOk.j0 k true a0_0 a0_1 a0_2 a0_3 a0_4 a0_5 a0_6 a0_7 a0_8 a0_9 a0_10 a0_11 a0_12 a0_13 a0_14 a0_15 a0_16 a0_17 a0_18 a0_19 a0_20))) else (spec_RuleOk.j0 k true a0_0 a0_1 a0_2 a0_3 a0_4 a0_5 a0_6 a0_7 a0_8 a0_9 a0_10 a0_11 a0_12 a0_13 a0_14 a0_15 a0_16 a0_17 a0_18 a0_19 a0_20)))))=some r:=h
 clear h
 have HC2 := D H
 clear H
 go_enter Try.func19, Try.ntmps19
 go_upto_region 1 with (first|((with_reducible refine gld_ 27 rfl ?_);(first|refine la27o1_ ?_|refine la27o7_ ?_))|((with_reducible refine gld_ 3 rfl ?_);refine lc3_ ?_)|((with_reducible refine gst_ 29 rfl ?_);refine sa29_ ?_)|((with_reducible refine gld_ 29 rfl ?_);refine la29_ ?_)|((with_reducible refine gate_dst (N:=1) rfl ?_);refine bx_ (N:=1) (cs:=#[I L a0_0,I L a0_1,I L a0_2,I L a0_3,I L a0_4,I L a0_5,I L a0_6,I L a0_7,I L a0_8,I L a0_9,I L a0_10,I L a0_11,I L a0_12,I L a0_13,I L a0_14,I L a0_15,I L a0_16,I L a0_17,I L a0_18,I L a0_19,I L a0_20]) (t:=29) ?_;intro Ka hg w3 hbox hb;have n_:=an_ (below_step (pB_ HB.out) hb)<|an_ (hbox)<|an_ (bg_ hg (pB_ HB.out):w.heap.size≤Ka)<|D (bg_ hg (pB_ HB.out):w.heap.size≤Ka);clear HB;obtain ⟨HB,Ja,Kj3,Mj3⟩:=n_;clear hb hbox hg))
 (try simp only [Act.put, List.setIfInBounds_toArray, List.set_cons_zero, List.set_cons_succ])
 go_cut [32] (fun v32 wc=>∃ (kq:Nat) (Ma:Bool),v32=.bool Ma∧Aside0 (spec_RuleOk.j0 kq Ma a0_0 a0_1 a0_2 a0_3 a0_4 a0_5 a0_6 a0_7 a0_8 a0_9 a0_10 a0_11 a0_12 a0_13 a0_14 a0_15 a0_16 a0_17 a0_18 a0_19 a0_20=some r)∧Aside0 (kq≤k)∧Aside0 (wc.heap[Ka]?=some (.cells #[I L a0_0,I L a0_1,I L a0_2,I L a0_3,I L a0_4,I L a0_5,I L a0_6,I L a0_7,I L a0_8,I L a0_9,I L a0_10,I L a0_11,I L a0_12,I L a0_13,I L a0_14,I L a0_15,I L a0_16,I L a0_17,I L a0_18,I L a0_19,I L a0_20] 29 (0,0)))∧Aside0 (Below w.heap.size w wc))
 case first =>
  have H := HC2.out; clear HC2
  by_cases c4 : a0_0 < 1
  ·rw [if_pos c4] at H
   have c4b0:decide (a0_0 < 1)=true:=decide_eq_true c4;clear c4;refine rw_ c4b0 ?_;have H':=D H;clear H;obtain ⟨Jb,Kb,Mb,Ob,Ub,Xb,Jc,Kc,Mc,Oc,Uc,Xc,Jd,Kd,Md,Od,Ud,Xd,Je,Ke,Me,Oe,Ue,Xe,Jf,Kf,Mf,Of,Uf,Xf,Jg,Kg,Mg,Og,Ug,Xg,Jh,Kh,Mh,Oh,Uh,Xh⟩:=cells21 Ja.out
   go_wp2_with (first|((with_reducible refine gld_ 27 rfl ?_);(first|refine la27o1_ ?_|refine la27o7_ ?_))|((with_reducible refine gld_ 3 rfl ?_);refine lc3_ ?_)|((with_reducible refine gst_ 29 rfl ?_);refine sa29_ ?_)|((with_reducible refine gld_ 29 rfl ?_);refine la29_ ?_))
   go_meet
   case rel => exact ⟨_, (true), Z17, H', ⟨by first | omega | exact Nat.le_refl _⟩, ⟨pk_ Ja.out⟩, ⟨pB_ HB.out⟩⟩
  ·rw [if_neg c4] at H
   have c4b0:decide (a0_0 < 1)=false:=decide_eq_false c4;clear c4;refine rw_ c4b0 ?_
   by_cases c6 : a0_0 > 9999
   ·rw [if_pos c6] at H
    have c6b0:decide (9999 < a0_0)=true:=decide_eq_true c6;clear c6;have H':=D H;clear H;obtain ⟨Ji,Ki,Mi,Oi,Ui,Xi,Jj,Kj,Mj,Oj,Uj,Xj,Jk,Kk,Mk,Ok,Uk,Xk,Jm,Km,Mm,Om,Um,Xm,Jn,Kn,Mn,On,Un,Xn,Jo,Ko,Mo,Oo,Uo,Xo,Jp,Kp,Mp,Op,Up,Xp⟩:=cells21 Ja.out
    go_wp2_with (first|((with_reducible refine gld_ 27 rfl ?_);(first|refine la27o1_ ?_|refine la27o7_ ?_))|((with_reducible refine gld_ 3 rfl ?_);refine lc3_ ?_)|((with_reducible refine gst_ 29 rfl ?_);refine sa29_ ?_)|((with_reducible refine gld_ 29 rfl ?_);refine la29_ ?_))
    go_meet
    case rel => exact ⟨_, (true), Z17, H', ⟨by first | omega | exact Nat.le_refl _⟩, ⟨pk_ Ja.out⟩, ⟨pB_ HB.out⟩⟩
   ·rw [if_neg c6] at H
    have c6b0 : decide (9999 < a0_0) = false := decide_eq_false c6; clear c6; obtain ⟨Oa, A80, H⟩ := bs_.mp H; (try dsimp only at H); have A8 := D A80; clear A80
    by_cases c9 : Oa = true
    ·subst c9
     rw [if_pos rfl] at H; obtain ⟨Ua, A100, H⟩ := bs_.mp H; (try dsimp only at H); have A10 := D A100; clear A100
     by_cases c11 : Ua = true
     ·subst c11
      rw [if_pos rfl] at H
      by_cases c12 : a0_13 < (-1)
      ·rw [if_pos c12] at H
       have c12b0:decide (a0_13 < (-1))=true:=decide_eq_true c12;clear c12;have H':=D H;clear H;obtain ⟨Jq,Kq,Mq,Oq,Uq,Xq,Jr,Kr,Mr,Or,Ur,Xr,Js,Ks,Ms,Os,Us,Xs,Ju,Ku,Mu,Ou,Uu,Xu,Jv,Kv,Mv,Ov,Uv,Xv,Jx,Kx,Mx,Ox,Ux,Xx,Jy,Ky,My,Oy,Uy,Xy⟩:=cells21 Ja.out
       go_wp2_with (first|((with_reducible refine gld_ 27 rfl ?_);(first|refine la27o1_ ?_|refine la27o7_ ?_))|((with_reducible refine gld_ 3 rfl ?_);refine lc3_ ?_)|((with_reducible refine gst_ 29 rfl ?_);refine sa29_ ?_)|((with_reducible refine gld_ 29 rfl ?_);refine la29_ ?_)|(go_at_call 35;(with_reducible refine (spec_PrefixOk.calls k a0_1 a0_2 a0_3 a0_4 a0_5 a0_6 true _ A8.out).mono ?_);rintro e w14 ⟨rfl,hb⟩;have n_:=an_ (blk_below (pk_ Ja.out) hb)<|D (below_step (pB_ HB.out) hb);clear Ja HB;obtain ⟨Ja,HB⟩:=n_;(try clear hb);obtain ⟨Jz,Kz,Mz,Oz,Uz,Xz,Ja1,Ka1,Ma1,Oa1,Ua1,Xa1,Jb1,Kb1,Mb1,Ob1,Ub1,Xb1,Jc1,Kc1,Mc1,Oc1,Uc1,Xc1,Jd1,Kd1,Md1,Od1,Ud1,Xd1,Je1,Ke1,Me1,Oe1,Ue1,Xe1,Jf1,Kf1,Mf1,Of1,Uf1,Xf1⟩:=cells21 Ja.out)|(go_at_call 35;(with_reducible refine (spec_PrefixOk.calls k a0_7 a0_8 a0_9 a0_10 a0_11 a0_12 true _ A10.out).mono ?_);rintro e w16 ⟨rfl,hb⟩;have n_:=an_ (blk_below (pk_ Ja.out) hb)<|D (below_step (pB_ HB.out) hb);clear Ja HB;obtain ⟨Ja,HB⟩:=n_;(try clear hb);obtain ⟨Jg1,Kg1,Mg1,Og1,Ug1,Xg1,Jh1,Kh1,Mh1,Oh1,Uh1,Xh1,Ji1,Ki1,Mi1,Oi1,Ui1,Xi1,Jj1,Kj1,Mj1,Oj1,Uj1,Xj1,Jk1,Kk1,Mk1,Ok1,Uk1,Xk1,Jm1,Km1,Mm1,Om1,Um1,Xm1,Jn1,Kn1,Mn1,On1,Un1,Xn1⟩:=cells21 Ja.out))
       go_meet
       case rel => exact ⟨_, (true), Z17, H', ⟨by first | omega | exact Nat.le_refl _⟩, ⟨pk_ Ja.out⟩, ⟨pB_ HB.out⟩⟩
      ·rw [if_neg c12] at H
       have c12b0:decide (a0_13 < (-1))=false:=decide_eq_false c12;clear c12;have H':=D H;clear H;obtain ⟨Jo1,Ko1,Mo1,Oo1,Uo1,Xo1,Jp1,Kp1,Mp1,Op1,Up1,Xp1,Jq1,Kq1,Mq1,Oq1,Uq1,Xq1,Jr1,Kr1,Mr1,Or1,Ur1,Xr1,Js1,Ks1,Ms1,Os1,Us1,Xs1,Ju1,Ku1,Mu1,Ou1,Uu1,Xu1,Jv1,Kv1,Mv1,Ov1,Uv1,Xv1⟩:=cells21 Ja.out
       go_wp2_with (first|((with_reducible refine gld_ 27 rfl ?_);(first|refine la27o1_ ?_|refine la27o7_ ?_))|((with_reducible refine gld_ 3 rfl ?_);refine lc3_ ?_)|((with_reducible refine gst_ 29 rfl ?_);refine sa29_ ?_)|((with_reducible refine gld_ 29 rfl ?_);refine la29_ ?_)|(go_at_call 35;(with_reducible refine (spec_PrefixOk.calls k a0_1 a0_2 a0_3 a0_4 a0_5 a0_6 true _ A8.out).mono ?_);rintro e w19 ⟨rfl,hb⟩;have n_:=an_ (blk_below (pk_ Ja.out) hb)<|D (below_step (pB_ HB.out) hb);clear Ja HB;obtain ⟨Ja,HB⟩:=n_;(try clear hb);obtain ⟨Jx1,Kx1,Mx1,Ox1,Ux1,Xx1,Jy1,Ky1,My1,Oy1,Uy1,Xy1,Jz1,Kz1,Mz1,Oz1,Uz1,Xz1,Ja2,Ka2,Ma2,Oa2,Ua2,Xa2,Jb2,Kb2,Mb2,Ob2,Ub2,Xb2,Jc2,Kc2,Mc2,Oc2,Uc2,Xc2,Jd2,Kd2,Md2,Od2,Ud2,Xd2⟩:=cells21 Ja.out)|(go_at_call 35;(with_reducible refine (spec_PrefixOk.calls k a0_7 a0_8 a0_9 a0_10 a0_11 a0_12 true _ A10.out).mono ?_);rintro e w21 ⟨rfl,hb⟩;have n_:=an_ (blk_below (pk_ Ja.out) hb)<|D (below_step (pB_ HB.out) hb);clear Ja HB;obtain ⟨Ja,HB⟩:=n_;(try clear hb);obtain ⟨Je2,Ke2,Me2,Oe2,Ue2,Xe2,Jf2,Kf2,Mf2,Of2,Uf2,Xf2,Jg2,Kg2,Mg2,Og2,Ug2,Xg2,Jh2,Kh2,Mh2,Oh2,Uh2,Xh2,Ji2,Ki2,Mi2,Oi2,Ui2,Xi2,Jj2,Kj2,Mj2,Oj2,Uj2,Xj2,Jk2,Kk2,Mk2,Ok2,Uk2,Xk2⟩:=cells21 Ja.out))
       go_meet
       case rel => exact ⟨_, (decide (a0_13 > 255)), Z17, H', ⟨by first | omega | exact Nat.le_refl _⟩, ⟨pk_ Ja.out⟩, ⟨pB_ HB.out⟩⟩
     ·replace c11 := Bool.eq_false_iff.mpr c11
      subst c11;rw [if_neg (show ¬ (false=true) by decide)] at H;have H':=D H;clear H;obtain ⟨Jm2,Km2,Mm2,Om2,Um2,Xm2,Jn2,Kn2,Mn2,On2,Un2,Xn2,Jo2,Ko2,Mo2,Oo2,Uo2,Xo2,Jp2,Kp2,Mp2,Op2,Up2,Xp2,Jq2,Kq2,Mq2,Oq2,Uq2,Xq2,Jr2,Kr2,Mr2,Or2,Ur2,Xr2,Js2,Ks2,Ms2,Os2,Us2,Xs2⟩:=cells21 Ja.out
      go_wp2_with (first|((with_reducible refine gld_ 27 rfl ?_);(first|refine la27o1_ ?_|refine la27o7_ ?_))|((with_reducible refine gld_ 3 rfl ?_);refine lc3_ ?_)|((with_reducible refine gst_ 29 rfl ?_);refine sa29_ ?_)|((with_reducible refine gld_ 29 rfl ?_);refine la29_ ?_)|(go_at_call 35;(with_reducible refine (spec_PrefixOk.calls k a0_1 a0_2 a0_3 a0_4 a0_5 a0_6 true _ A8.out).mono ?_);rintro e w24 ⟨rfl,hb⟩;have n_:=an_ (blk_below (pk_ Ja.out) hb)<|D (below_step (pB_ HB.out) hb);clear Ja HB;obtain ⟨Ja,HB⟩:=n_;(try clear hb);obtain ⟨Ju2,Ku2,Mu2,Ou2,Uu2,Xu2,Jv2,Kv2,Mv2,Ov2,Uv2,Xv2,Jx2,Kx2,Mx2,Ox2,Ux2,Xx2,Jy2,Ky2,My2,Oy2,Uy2,Xy2,Jz2,Kz2,Mz2,Oz2,Uz2,Xz2,Ja3,Ka3,Ma3,Oa3,Ua3,Xa3,Jb3,Kb3,Mb3,Ob3,Ub3,Xb3⟩:=cells21 Ja.out)|(go_at_call 35;(with_reducible refine (spec_PrefixOk.calls k a0_7 a0_8 a0_9 a0_10 a0_11 a0_12 false _ A10.out).mono ?_);rintro e w26 ⟨rfl,hb⟩;have n_:=an_ (blk_below (pk_ Ja.out) hb)<|D (below_step (pB_ HB.out) hb);clear Ja HB;obtain ⟨Ja,HB⟩:=n_;(try clear hb)))
      go_meet
      case rel => exact ⟨_, (true), Z17, H', ⟨by first | omega | exact Nat.le_refl _⟩, ⟨pk_ Ja.out⟩, ⟨pB_ HB.out⟩⟩
    ·replace c9 := Bool.eq_false_iff.mpr c9
     subst c9;rw [if_neg (show ¬ (false=true) by decide)] at H;have H':=D H;clear H;obtain ⟨Jc3,Kc3,Mc3,Oc3,Uc3,Xc3,Jd3,Kd3,Md3,Od3,Ud3,Xd3,Je3,Ke3,Me3,Oe3,Ue3,Xe3,Jf3,Kf3,Mf3,Of3,Uf3,Xf3,Jg3,Kg3,Mg3,Og3,Ug3,Xg3,Jh3,Kh3,Mh3,Oh3,Uh3,Xh3,Ji3,Ki3,Mi3,Oi3,Ui3,Xi3⟩:=cells21 Ja.out
     go_wp2_with (first|((with_reducible refine gld_ 27 rfl ?_);(first|refine la27o1_ ?_|refine la27o7_ ?_))|((with_reducible refine gld_ 3 rfl ?_);refine lc3_ ?_)|((with_reducible refine gst_ 29 rfl ?_);refine sa29_ ?_)|((with_reducible refine gld_ 29 rfl ?_);refine la29_ ?_)|(go_at_call 35;(with_reducible refine (spec_PrefixOk.calls k a0_1 a0_2 a0_3 a0_4 a0_5 a0_6 false _ A8.out).mono ?_);rintro e w28 ⟨rfl,hb⟩;have n_:=an_ (blk_below (pk_ Ja.out) hb)<|D (below_step (pB_ HB.out) hb);clear Ja HB;obtain ⟨Ja,HB⟩:=n_;(try clear hb)))
     go_meet
     case rel => exact ⟨_, (true), Z17, H', ⟨by first | omega | exact Nat.le_refl _⟩, ⟨pk_ Ja.out⟩, ⟨pB_ HB.out⟩⟩
 case rest =>
  clear HC2
  (try clear c1);(try clear p2);(try clear c4);(try clear c4b0);(try clear c6);(try clear c6b0);(try clear c9);(try clear c11);(try clear c12);(try clear c12b0);(try clear c19);(try clear Jq Kq Ur Xr Js Ks Ms Os Us Xs Ju Ku Mq Mu Oq Uq Xq Jr Kr Mr Or Ou Uu Kx Mx Ox Ux Xx Jy Ky My Oy Uy Xu Xy Jv Kv Mv Ov Uv Xv Jx);(try clear Jz Kz Ua1 Xa1 Jb1 Kb1 Mb1 Ob1 Ub1 Xb1 Jc1 Kc1 Mz Mc1 Oz Uz Xz Ja1 Ka1 Ma1 Oa1 Oc1 Uc1 Ke1 Me1 Oe1 Ue1 Xe1 Jf1 Kf1 Mf1 Of1 Uf1 Xc1 Xf1 Jd1 Kd1 Md1 Od1 Ud1 Xd1 Je1);(try clear Jg1 Kg1 Uh1 Xh1 Ji1 Ki1 Mi1 Oi1 Ui1 Xi1 Jj1 Kj1 Mg1 Mj1 Og1 Ug1 Xg1 Jh1 Kh1 Mh1 Oh1 Oj1 Uj1 Km1 Mm1 Om1 Um1 Xm1 Jn1 Kn1 Mn1 On1 Un1 Xj1 Xn1 Jk1 Kk1 Mk1 Ok1 Uk1 Xk1 Jm1);(try clear Jo1 Ko1 Up1 Xp1 Jq1 Kq1 Mq1 Oq1 Uq1 Xq1 Jr1 Kr1 Mo1 Mr1 Oo1 Uo1 Xo1 Jp1 Kp1 Mp1 Op1 Or1 Ur1 Ku1 Mu1 Ou1 Uu1 Xu1 Jv1 Kv1 Mv1 Ov1 Uv1 Xr1 Xv1 Js1 Ks1 Ms1 Os1 Us1 Xs1 Ju1);(try clear Jx1 Kx1 Uy1 Xy1 Jz1 Kz1 Mz1 Oz1 Uz1 Xz1 Ja2 Ka2 Mx1 Ma2 Ox1 Ux1 Xx1 Jy1 Ky1 My1 Oy1 Oa2 Ua2 Kc2 Mc2 Oc2 Uc2 Xc2 Jd2 Kd2 Md2 Od2 Ud2 Xa2 Xd2 Jb2 Kb2 Mb2 Ob2 Ub2 Xb2 Jc2);(try clear Je2 Ke2 Uf2 Xf2 Jg2 Kg2 Mg2 Og2 Ug2 Xg2 Jh2 Kh2 Me2 Mh2 Oe2 Ue2 Xe2 Jf2 Kf2 Mf2 Of2 Oh2 Uh2 Kj2 Mj2 Oj2 Uj2 Xj2 Jk2 Kk2 Mk2 Ok2 Uk2 Xh2 Xk2 Ji2 Ki2 Mi2 Oi2 Ui2 Xi2 Jj2);(try clear Jm2 Km2 Un2 Xn2 Jo2 Ko2 Mo2 Oo2 Uo2 Xo2 Jp2 Kp2 Mm2 Mp2 Om2 Um2 Xm2 Jn2 Kn2 Mn2 On2 Op2 Up2 Kr2 Mr2 Or2 Ur2 Xr2 Js2 Ks2 Ms2 Os2 Us2 Xp2 Xs2 Jq2 Kq2 Mq2 Oq2 Uq2 Xq2 Jr2);(try clear Ju2 Ku2 Uv2 Xv2 Jx2 Kx2 Mx2 Ox2 Ux2 Xx2 Jy2 Ky2 Mu2 My2 Ou2 Uu2 Xu2 Jv2 Kv2 Mv2 Ov2 Oy2 Uy2 Ka3 Ma3 Oa3 Ua3 Xa3 Jb3 Kb3 Mb3 Ob3 Ub3 Xy2 Xb3 Jz2 Kz2 Mz2 Oz2 Uz2 Xz2 Ja3);(try clear Jc3 Kc3 Ud3 Xd3 Je3 Ke3 Me3 Oe3 Ue3 Xe3 Jf3 Kf3 Mc3 Mf3 Oc3 Uc3 Xc3 Jd3 Kd3 Md3 Od3 Of3 Uf3 Kh3 Mh3 Oh3 Uh3 Xh3 Ji3 Ki3 Mi3 Oi3 Ui3 Xf3 Xi3 Jg3 Kg3 Mg3 Og3 Ug3 Xg3 Jh3);(try clear Jb Kb Uc Xc Jd Kd Md Od Ud Xd Je Ke Mb Me Ob Ub Xb Jc Kc Mc Oc Oe Ue Kg Mg Og Ug Xg Jh Kh Mh Oh Uh Xe Xh Jf Kf Mf Of Uf Xf Jg);(try clear Ji Ki Uj Xj Jk Kk Mk Ok Uk Xk Jm Km Mi Mm Oi Ui Xi Jj Kj Mj Oj Om Um Ko Mo Oo Uo Xo Jp Kp Mp Op Up Xm Xp Jn Kn Mn On Un Xn Jo)
  obtain ⟨kq, Ma, rfl, HA, HJ1, Ja, HB⟩ := hcut
  cases kq with
  | zero => exact absurd HA.out (by simp [spec_RuleOk.j0])
  | succ kj1 =>
   have H := HA.out; clear HA; simp only [spec_RuleOk.j0] at H
   by_cases c29 : Ma = true
   ·subst c29
    rw [if_pos rfl] at H; obtain rfl := Option.some.inj H
    go_wp2_with (first|((with_reducible refine gld_ 27 rfl ?_);(first|refine la27o1_ ?_|refine la27o7_ ?_))|((with_reducible refine gld_ 3 rfl ?_);refine lc3_ ?_)|((with_reducible refine gst_ 29 rfl ?_);refine sa29_ ?_)|((with_reducible refine gld_ 29 rfl ?_);refine la29_ ?_))
    go_ret; exact ⟨er_, pB_ HB.out⟩
   ·replace c29 := Bool.eq_false_iff.mpr c29
    subst c29; rw [if_neg (show ¬ (false = true) by decide)] at H; obtain ⟨Jj3, A300, H⟩ := bs_.mp H; (try dsimp only at H); have A30 := D A300; clear A300
    by_cases c31 : Jj3 = true
    ·subst c31
     rw [if_pos rfl] at H;obtain ⟨Xa,A320,H⟩:=bs_.mp H;(try dsimp only at H);have A32:=D A320;clear A320;have HU33:=D H;clear H;obtain ⟨Oj3,Uj3,Xj3,Jk3,Kk3,Mk3,Ok3,Uk3,Xk3,Jm3,Km3,Mm3,Om3,Um3,Xm3,Jn3,Kn3,Mn3,On3,Un3,Xn3,Jo3,Ko3,Mo3,Oo3,Uo3,Xo3,Jp3,Kp3,Mp3,Op3,Up3,Xp3,Jq3,Kq3,Mq3,Oq3,Uq3,Xq3,Jr3,Kr3,Mr3⟩:=cells21 Ja.out
     go_upto_if 46 with (first|((with_reducible refine gld_ 27 rfl ?_);(first|refine la27o1_ ?_|refine la27o7_ ?_))|((with_reducible refine gld_ 3 rfl ?_);refine lc3_ ?_)|((with_reducible refine gst_ 29 rfl ?_);refine sa29_ ?_)|((with_reducible refine gld_ 29 rfl ?_);refine la29_ ?_)|((with_reducible refine gate_callee (f:=36) rfl ?_);refine goesL_ (some 37) rfl rfl Try.func36 (by kernel_rfl) rfl #[I L a0_14,I L a0_15] rfl Z8 ?_;(with_reducible refine (spec_l09Range.calls a0_14 a0_15 true _ A30.out).mono ?_);rintro e w' ⟨rfl,⟨nd,rfl⟩⟩;refine ⟨_,rfl,?_⟩)|(go_at_call 36;(with_reducible refine (spec_l09Range.calls a0_16 a0_17 Xa _ A32.out).mono ?_);rintro e w' ⟨rfl,⟨nd,rfl⟩⟩))
     have H := HU33.out; clear HU33
     by_cases c35 : Xa = true
     ·subst c35
      rw [if_pos rfl] at H
      by_cases c36 : a0_18 ≥ 1
      ·rw [if_pos c36] at H
       have c36b0:decide (1≤a0_18)=true:=decide_eq_true c36;clear c36;refine rw_ c36b0 ?_
       by_cases c37 : a0_18 ≤ 8
       ·rw [if_pos c37] at H
        have c37b0 : decide (a0_18 ≤ 8) = true := decide_eq_true c37; clear c37
        by_cases c38 : a0_19 ≥ 1
        ·rw [if_pos c38] at H
         have c38b0 : decide (1 ≤ a0_19) = true := decide_eq_true c38; clear c38
         by_cases c39 : a0_19 ≤ 10
         ·rw [if_pos c39] at H
          have c39b0 : decide (a0_19 ≤ 10) = true := decide_eq_true c39; clear c39
          by_cases c40 : a0_20 ≥ 1
          ·rw [if_pos c40] at H
           have c40b0:decide (1≤a0_20)=true:=decide_eq_true c40;clear c40;obtain rfl:=Option.some.inj H;obtain ⟨Or3,Ur3,Xr3,Js3,Ks3,Ms3,Os3,Us3,Xs3,Ju3,Ku3,Mu3,Ou3,Uu3,Xu3,Jv3,Kv3,Mv3,Ov3,Uv3,Xv3,Jx3,Kx3,Mx3,Ox3,Ux3,Xx3,Jy3,Ky3,My3,Oy3,Uy3,Xy3,Jz3,Kz3,Mz3,Oz3,Uz3,Xz3,Ja4,Ka4,Ma4⟩:=cells21 Ja.out
           go_wp2_with (first|((with_reducible refine gld_ 27 rfl ?_);(first|refine la27o1_ ?_|refine la27o7_ ?_))|((with_reducible refine gld_ 3 rfl ?_);refine lc3_ ?_)|((with_reducible refine gst_ 29 rfl ?_);refine sa29_ ?_)|((with_reducible refine gld_ 29 rfl ?_);refine la29_ ?_))
           go_ret; exact ⟨er_, pB_ HB.out⟩
          ·rw [if_neg c40] at H
           have c40b0:decide (1≤a0_20)=false:=decide_eq_false c40;clear c40;obtain rfl:=Option.some.inj H;obtain ⟨Oa4,Ua4,Xa4,Jb4,Kb4,Mb4,Ob4,Ub4,Xb4,Jc4,Kc4,Mc4,Oc4,Uc4,Xc4,Jd4,Kd4,Md4,Od4,Ud4,Xd4,Je4,Ke4,Me4,Oe4,Ue4,Xe4,Jf4,Kf4,Mf4,Of4,Uf4,Xf4,Jg4,Kg4,Mg4,Og4,Ug4,Xg4,Jh4,Kh4,Mh4⟩:=cells21 Ja.out
           go_wp2_with (first|((with_reducible refine gld_ 27 rfl ?_);(first|refine la27o1_ ?_|refine la27o7_ ?_))|((with_reducible refine gld_ 3 rfl ?_);refine lc3_ ?_)|((with_reducible refine gst_ 29 rfl ?_);refine sa29_ ?_)|((with_reducible refine gld_ 29 rfl ?_);refine la29_ ?_))
           go_ret; exact ⟨er_, pB_ HB.out⟩
         ·rw [if_neg c39] at H
          have c39b0:decide (a0_19≤10)=false:=decide_eq_false c39;clear c39;obtain rfl:=Option.some.inj H;obtain ⟨Oh4,Uh4,Xh4,Ji4,Ki4,Mi4,Oi4,Ui4,Xi4,Jj4,Kj4,Mj4,Oj4,Uj4,Xj4,Jk4,Kk4,Mk4,Ok4,Uk4,Xk4,Jm4,Km4,Mm4,Om4,Um4,Xm4,Jn4,Kn4,Mn4,On4,Un4,Xn4,Jo4,Ko4,Mo4,Oo4,Uo4,Xo4,Jp4,Kp4,Mp4⟩:=cells21 Ja.out
          go_wp2_with (first|((with_reducible refine gld_ 27 rfl ?_);(first|refine la27o1_ ?_|refine la27o7_ ?_))|((with_reducible refine gld_ 3 rfl ?_);refine lc3_ ?_)|((with_reducible refine gst_ 29 rfl ?_);refine sa29_ ?_)|((with_reducible refine gld_ 29 rfl ?_);refine la29_ ?_))
          go_ret; exact ⟨er_, pB_ HB.out⟩
        ·rw [if_neg c38] at H
         have c38b0:decide (1≤a0_19)=false:=decide_eq_false c38;clear c38;obtain rfl:=Option.some.inj H;obtain ⟨Op4,Up4,Xp4,Jq4,Kq4,Mq4,Oq4,Uq4,Xq4,Jr4,Kr4,Mr4,Or4,Ur4,Xr4,Js4,Ks4,Ms4,Os4,Us4,Xs4,Ju4,Ku4,Mu4,Ou4,Uu4,Xu4,Jv4,Kv4,Mv4,Ov4,Uv4,Xv4,Jx4,Kx4,Mx4,Ox4,Ux4,Xx4,Jy4,Ky4,My4⟩:=cells21 Ja.out
         go_wp2_with (first|((with_reducible refine gld_ 27 rfl ?_);(first|refine la27o1_ ?_|refine la27o7_ ?_))|((with_reducible refine gld_ 3 rfl ?_);refine lc3_ ?_)|((with_reducible refine gst_ 29 rfl ?_);refine sa29_ ?_)|((with_reducible refine gld_ 29 rfl ?_);refine la29_ ?_))
         go_ret; exact ⟨er_, pB_ HB.out⟩
       ·rw [if_neg c37] at H
        have c37b0:decide (a0_18≤8)=false:=decide_eq_false c37;clear c37;obtain rfl:=Option.some.inj H;obtain ⟨Oy4,Uy4,Xy4,Jz4,Kz4,Mz4,Oz4,Uz4,Xz4,Ja5,Ka5,Ma5,Oa5,Ua5,Xa5,Jb5,Kb5,Mb5,Ob5,Ub5,Xb5,Jc5,Kc5,Mc5,Oc5,Uc5,Xc5,Jd5,Kd5,Md5,Od5,Ud5,Xd5,Je5,Ke5,Me5,Oe5,Ue5,Xe5,Jf5,Kf5,Mf5⟩:=cells21 Ja.out
        go_wp2_with (first|((with_reducible refine gld_ 27 rfl ?_);(first|refine la27o1_ ?_|refine la27o7_ ?_))|((with_reducible refine gld_ 3 rfl ?_);refine lc3_ ?_)|((with_reducible refine gst_ 29 rfl ?_);refine sa29_ ?_)|((with_reducible refine gld_ 29 rfl ?_);refine la29_ ?_))
        go_ret; exact ⟨er_, pB_ HB.out⟩
      ·rw [if_neg c36] at H
       have c36b0:decide (1≤a0_18)=false:=decide_eq_false c36;clear c36;refine rw_ c36b0 ?_;obtain rfl:=Option.some.inj H;obtain ⟨Of5,Uf5,Xf5,Jg5,Kg5,Mg5,Og5,Ug5,Xg5,Jh5,Kh5,Mh5,Oh5,Uh5,Xh5,Ji5,Ki5,Mi5,Oi5,Ui5,Xi5,Jj5,Kj5,Mj5,Oj5,Uj5,Xj5,Jk5,Kk5,Mk5,Ok5,Uk5,Xk5,Jm5,Km5,Mm5,Om5,Um5,Xm5,Jn5,Kn5,Mn5⟩:=cells21 Ja.out
       go_wp2_with (first|((with_reducible refine gld_ 27 rfl ?_);(first|refine la27o1_ ?_|refine la27o7_ ?_))|((with_reducible refine gld_ 3 rfl ?_);refine lc3_ ?_)|((with_reducible refine gst_ 29 rfl ?_);refine sa29_ ?_)|((with_reducible refine gld_ 29 rfl ?_);refine la29_ ?_))
       go_ret; exact ⟨er_, pB_ HB.out⟩
     ·replace c35 := Bool.eq_false_iff.mpr c35
      subst c35; rw [if_neg (show ¬ (false = true) by decide)] at H; obtain rfl := Option.some.inj H
      go_wp2_with (first|((with_reducible refine gld_ 27 rfl ?_);(first|refine la27o1_ ?_|refine la27o7_ ?_))|((with_reducible refine gld_ 3 rfl ?_);refine lc3_ ?_)|((with_reducible refine gst_ 29 rfl ?_);refine sa29_ ?_)|((with_reducible refine gld_ 29 rfl ?_);refine la29_ ?_))
      go_ret; exact ⟨er_, pB_ HB.out⟩
    ·replace c31 := Bool.eq_false_iff.mpr c31
     subst c31;rw [if_neg (show ¬ (false=true) by decide)] at H;obtain rfl:=Option.some.inj H;obtain ⟨On5,Un5,Xn5,Jo5,Ko5,Mo5,Oo5,Uo5,Xo5,Jp5,Kp5,Mp5,Op5,Up5,Xp5,Jq5,Kq5,Mq5,Oq5,Uq5,Xq5,Jr5,Kr5,Mr5,Or5,Ur5,Xr5,Js5,Ks5,Ms5,Os5,Us5,Xs5,Ju5,Ku5,Mu5,Ou5,Uu5,Xu5,Jv5,Kv5,Mv5⟩:=cells21 Ja.out
     go_wp2_with (first|((with_reducible refine gld_ 27 rfl ?_);(first|refine la27o1_ ?_|refine la27o7_ ?_))|((with_reducible refine gld_ 3 rfl ?_);refine lc3_ ?_)|((with_reducible refine gst_ 29 rfl ?_);refine sa29_ ?_)|((with_reducible refine gld_ 29 rfl ?_);refine la29_ ?_)|((with_reducible refine gate_callee (f:=36) rfl ?_);refine goesL_ (some 37) rfl rfl Try.func36 (by kernel_rfl) rfl #[I L a0_14,I L a0_15] rfl Z8 ?_;(with_reducible refine (spec_l09Range.calls a0_14 a0_15 false _ A30.out).mono ?_);rintro e w' ⟨rfl,⟨nd,rfl⟩⟩;refine ⟨_,rfl,?_⟩))
     go_ret; exact ⟨er_, pB_ HB.out⟩

end Go.Proofs.Ytjhgkonacdimfaa.PFnTurnedKey
