-- by a program of this session's, over the kit's words
import Derived.Test.YtoacddcbiceeeabPZFnCostAdds
import Derived.Test.YtoacddcbiceeeabPFnCostAddsx0
import Derived.Test.YtoacddcbiceeeabPFnCostAddsx11
import Derived.Test.YtoacddcbiceeeabPFnCostAddsx12
namespace Go.Proofs.Ytoacddcbiceeeab.PFnCostAdds
open Go.RowKit Go.Proofs.YtoacddcbiceeeabW.PrintWords Go.Proofs.YtoacddcbiceeeabW.PrintLast Go.Proofs.YtoacddcbiceeeabW.PrintMore Go.Proofs.YtoacddcbiceeeabV Go.Proofs.Ytoacddcbiceeeab.ZFnCostAdds
open Go.Value renaming int → I, slice → Y
open Go.IntKind renaming i64 → L
open Aside0 renaming mk → D
open Option renaming bind_eq_some_iff → bs_
attribute [local go_sem] max2_int min2_int max_two min_two max_three min_three max_four min_four   -- for this text's walks alone
set_option linter.unusedVariables false
set_option linter.unusedSimpArgs false

/-! ### spec_ModuleOk: function 29 -/
mutual
def spec_ModuleOk.j0 : Nat → Bool → Bool → Int → Int → Int → Int → Int → Int → Int → Int → Int → Int → Int → Int → Int → Int → Int → Int → Int → Option (Bool)
 | 0, _, _, _, _, _, _, _, _, _, _, _, _, _, _, _, _, _, _, _ => none
 | k + 1,x3,x4,x522000,x522001,x522002,x522003,x522004,x522005,x522006,x522007,x522008,x522009,x522010,x522011,x522012,x522013,x522014,x522015,x522016=>if x522000=5 then (spec_ModuleOk.j1 k x3 x4 true x522000 x522001 x522002 x522003 x522004 x522005 x522006 x522007 x522008 x522009 x522010 x522011 x522012 x522013 x522014 x522015 x522016) else (spec_ModuleOk.j1 k x3 x4 (x522000 == 7) x522000 x522001 x522002 x522003 x522004 x522005 x522006 x522007 x522008 x522009 x522010 x522011 x522012 x522013 x522014 x522015 x522016)
def spec_ModuleOk.j1 : Nat → Bool → Bool → Bool → Int → Int → Int → Int → Int → Int → Int → Int → Int → Int → Int → Int → Int → Int → Int → Int → Int → Option (Bool)
 | 0, _, _, _, _, _, _, _, _, _, _, _, _, _, _, _, _, _, _, _, _ => none
 | k + 1,x3,x4,x5,x522000,x522001,x522002,x522003,x522004,x522005,x522006,x522007,x522008,x522009,x522010,x522011,x522012,x522013,x522014,x522015,x522016=>if x522000 < 1 then (spec_ModuleOk.j2 k x3 x4 x5 true x522000 x522001 x522002 x522003 x522004 x522005 x522006 x522007 x522008 x522009 x522010 x522011 x522012 x522013 x522014 x522015 x522016) else (spec_ModuleOk.j2 k x3 x4 x5 (decide (x522000 > 7)) x522000 x522001 x522002 x522003 x522004 x522005 x522006 x522007 x522008 x522009 x522010 x522011 x522012 x522013 x522014 x522015 x522016)
def spec_ModuleOk.j2 : Nat → Bool → Bool → Bool → Bool → Int → Int → Int → Int → Int → Int → Int → Int → Int → Int → Int → Int → Int → Int → Int → Int → Int → Option (Bool)
 | 0, _, _, _, _, _, _, _, _, _, _, _, _, _, _, _, _, _, _, _, _, _ => none
 | k + 1,x3,x4,x5,x32,x522000,x522001,x522002,x522003,x522004,x522005,x522006,x522007,x522008,x522009,x522010,x522011,x522012,x522013,x522014,x522015,x522016=>if x32=true then (some false) else (if x3=true then (if x5=true then (spec_ModuleOk.j3 k false x522000 x522001 x522002 x522003 x522004 x522005 x522006 x522007 x522008 x522009 x522010 x522011 x522012 x522013 x522014 x522015 x522016) else (if x522016=0 then (spec_ModuleOk.j3 k false x522000 x522001 x522002 x522003 x522004 x522005 x522006 x522007 x522008 x522009 x522010 x522011 x522012 x522013 x522014 x522015 x522016) else (spec_ModuleOk.j3 k true x522000 x522001 x522002 x522003 x522004 x522005 x522006 x522007 x522008 x522009 x522010 x522011 x522012 x522013 x522014 x522015 x522016))) else (if x522013=0 then (if x522014=0 then (if x522015=0 then (if x5=true then (if x4=true then (spec_ModuleOk.j3 k false x522000 x522001 x522002 x522003 x522004 x522005 x522006 x522007 x522008 x522009 x522010 x522011 x522012 x522013 x522014 x522015 x522016) else ((spec_l03Any.f x522001 x522002 x522003 x522004 x522005 x522006).bind fun t522=>(if t522=true then ((spec_l03Any.f x522007 x522008 x522009 x522010 x522011 x522012).bind fun t523=>(spec_ModuleOk.j3 k (!t523) x522000 x522001 x522002 x522003 x522004 x522005 x522006 x522007 x522008 x522009 x522010 x522011 x522012 x522013 x522014 x522015 x522016)) else (spec_ModuleOk.j3 k true x522000 x522001 x522002 x522003 x522004 x522005 x522006 x522007 x522008 x522009 x522010 x522011 x522012 x522013 x522014 x522015 x522016)))) else (if x522016=0 then (if x4=true then (spec_ModuleOk.j3 k false x522000 x522001 x522002 x522003 x522004 x522005 x522006 x522007 x522008 x522009 x522010 x522011 x522012 x522013 x522014 x522015 x522016) else ((spec_l03Any.f x522001 x522002 x522003 x522004 x522005 x522006).bind fun t524=>(if t524=true then ((spec_l03Any.f x522007 x522008 x522009 x522010 x522011 x522012).bind fun t525=>(spec_ModuleOk.j3 k (!t525) x522000 x522001 x522002 x522003 x522004 x522005 x522006 x522007 x522008 x522009 x522010 x522011 x522012 x522013 x522014 x522015 x522016)) else (spec_ModuleOk.j3 k true x522000 x522001 x522002 x522003 x522004 x522005 x522006 x522007 x522008 x522009 x522010 x522011 x522012 x522013 x522014 x522015 x522016)))) else (spec_ModuleOk.j3 k true x522000 x522001 x522002 x522003 x522004 x522005 x522006 x522007 x522008 x522009 x522010 x522011 x522012 x522013 x522014 x522015 x522016))) else (spec_ModuleOk.j3 k true x522000 x522001 x522002 x522003 x522004 x522005 x522006 x522007 x522008 x522009 x522010 x522011 x522012 x522013 x522014 x522015 x522016)) else (spec_ModuleOk.j3 k true x522000 x522001 x522002 x522003 x522004 x522005 x522006 x522007 x522008 x522009 x522010 x522011 x522012 x522013 x522014 x522015 x522016)) else (spec_ModuleOk.j3 k true x522000 x522001 x522002 x522003 x522004 x522005 x522006 x522007 x522008 x522009 x522010 x522011 x522012 x522013 x522014 x522015 x522016)))
def spec_ModuleOk.j3 : Nat → Bool → Int → Int → Int → Int → Int → Int → Int → Int → Int → Int → Int → Int → Int → Int → Int → Int → Int → Option (Bool)
 | 0, _, _, _, _, _, _, _, _, _, _, _, _, _, _, _, _, _, _ => none
 | k + 1,x78,x522000,x522001,x522002,x522003,x522004,x522005,x522006,x522007,x522008,x522009,x522010,x522011,x522012,x522013,x522014,x522015,x522016=>if x78=true then (some false) else (if x522000=1 then ((spec_PrefixOk.f k x522001 x522002 x522003 x522004 x522005 x522006).bind fun t526=>(if t526=true then ((spec_PrefixOk.f k x522007 x522008 x522009 x522010 x522011 x522012).bind fun t527=>(if t527=true then (if x522013 ≥ (-1) then (if x522013≤255 then ((spec_l09Range.f x522014 x522015).bind fun t528=>(some t528)) else (some false)) else (some false)) else (some false))) else (some false))) else (if x522000=2 then (spec_ModuleOk.j4 k x522000 (x522000 == 2) x522000 x522001 x522002 x522003 x522004 x522005 x522006 x522007 x522008 x522009 x522010 x522011 x522012 x522013 x522014 x522015 x522016) else (spec_ModuleOk.j4 k x522000 (x522000 == 3) x522000 x522001 x522002 x522003 x522004 x522005 x522006 x522007 x522008 x522009 x522010 x522011 x522012 x522013 x522014 x522015 x522016)))
def spec_ModuleOk.j4 : Nat → Int → Bool → Int → Int → Int → Int → Int → Int → Int → Int → Int → Int → Int → Int → Int → Int → Int → Int → Int → Option (Bool)
 | 0, _, _, _, _, _, _, _, _, _, _, _, _, _, _, _, _, _, _, _ => none
 | k + 1,x80,x108,x522000,x522001,x522002,x522003,x522004,x522005,x522006,x522007,x522008,x522009,x522010,x522011,x522012,x522013,x522014,x522015,x522016=>if x108=true then ((spec_l10Twins.f k x522001 x522002 x522003 x522004 x522005 x522006 x522007 x522008 x522009 x522010 x522011 x522012).bind fun t529=>(some t529)) else (if x80=5 then ((spec_l05In.f x522016 63).bind fun t530=>(some t530)) else (if x80=7 then (if x522016 ≥ 1 then (some (decide (x522016≤4))) else (some false)) else (some true)))
end
def spec_ModuleOk.f (k : Nat) (a0_0 a0_1 a0_2 a0_3 a0_4 a0_5 a0_6 a0_7 a0_8 a0_9 a0_10 a0_11 a0_12 a0_13 a0_14 a0_15 a0_16 : Int) : Option (Bool) := if a0_0 = 2 then (spec_ModuleOk.j0 k (a0_0 == 1) true a0_0 a0_1 a0_2 a0_3 a0_4 a0_5 a0_6 a0_7 a0_8 a0_9 a0_10 a0_11 a0_12 a0_13 a0_14 a0_15 a0_16) else (spec_ModuleOk.j0 k (a0_0 == 1) (a0_0 == 3) a0_0 a0_1 a0_2 a0_3 a0_4 a0_5 a0_6 a0_7 a0_8 a0_9 a0_10 a0_11 a0_12 a0_13 a0_14 a0_15 a0_16)
set_option maxHeartbeats 8000000 in
set_option maxRecDepth 100000 in
theorem spec_ModuleOk.calls (k : Nat) (a0_0 a0_1 a0_2 a0_3 a0_4 a0_5 a0_6 a0_7 a0_8 a0_9 a0_10 a0_11 a0_12 a0_13 a0_14 a0_15 a0_16 : Int) (r : Bool) (w : World) (h : spec_ModuleOk.f k a0_0 a0_1 a0_2 a0_3 a0_4 a0_5 a0_6 a0_7 a0_8 a0_9 a0_10 a0_11 a0_12 a0_13 a0_14 a0_15 a0_16 = some r) :
  Calls Try.prog 29 #[.agg #[I L a0_0,I L a0_1,I L a0_2,I L a0_3,I L a0_4,I L a0_5,I L a0_6,I L a0_7,I L a0_8,I L a0_9,I L a0_10,I L a0_11,I L a0_12,I L a0_13,I L a0_14,I L a0_15,I L a0_16]] w fun e w'=>e=.returned (.bool r)∧Below w.heap.size w w':=by
 have hu36 := Try.underlying36
 have hu34 := Try.underlying34
 have HB := D (Below.refl w.heap.size w)
 have H:(if a0_0=2 then (spec_ModuleOk.j0 k (a0_0 == 1) true a0_0 a0_1 a0_2 a0_3 a0_4 a0_5 a0_6 a0_7 a0_8 a0_9 a0_10 a0_11 a0_12 a0_13 a0_14 a0_15 a0_16) else (spec_ModuleOk.j0 k (a0_0 == 1) (a0_0 == 3) a0_0 a0_1 a0_2 a0_3 a0_4 a0_5 a0_6 a0_7 a0_8 a0_9 a0_10 a0_11 a0_12 a0_13 a0_14 a0_15 a0_16))=some r:=h
 clear h
 have HC2 := D H
 clear H
 go_enter Try.func29, Try.ntmps29
 go_upto_region 2 with (first|((with_reducible refine gld_ 34 rfl ?_);(first|refine la34o1_ ?_|refine la34o7_ ?_))|((with_reducible refine gld_ 3 rfl ?_);refine lc3_ ?_)|((with_reducible refine gst_ 36 rfl ?_);refine sa36_ ?_)|((with_reducible refine gld_ 36 rfl ?_);refine la36_ ?_)|((with_reducible refine gate_dst (N:=1) rfl ?_);refine bx_ (N:=1) (cs:=#[I L a0_0,I L a0_1,I L a0_2,I L a0_3,I L a0_4,I L a0_5,I L a0_6,I L a0_7,I L a0_8,I L a0_9,I L a0_10,I L a0_11,I L a0_12,I L a0_13,I L a0_14,I L a0_15,I L a0_16]) (t:=36) ?_;intro Ka hg w3 hbox hb;have n_:=an_ (below_step (pB_ HB.out) hb)<|an_ (hbox)<|an_ (bg_ hg (pB_ HB.out):w.heap.size≤Ka)<|D (bg_ hg (pB_ HB.out):w.heap.size≤Ka);clear HB;obtain ⟨HB,Ja,Km8,Mm8⟩:=n_;clear hb hbox hg;obtain ⟨Xa,Jb,Kb,Mb,Ob,Ub,Xb,Jc,Kc,Mc,Oc,Uc,Xc,Jd,Kd,Md,Od,Ud,Xd,Je,Ke,Me,Oe,Ue,Xe,Jf,Kf,Mf,Of,Uf,Xf,Jg,Kg,Mg⟩:=cells17 Ja.out))
 (try simp only [Act.put, List.setIfInBounds_toArray, List.set_cons_zero, List.set_cons_succ])
 go_cut [4] (fun v4 wc=>∃ (kq:Nat) (x4_1:Bool),v4=.bool x4_1∧Aside0 (spec_ModuleOk.j0 kq (a0_0 == 1) x4_1 a0_0 a0_1 a0_2 a0_3 a0_4 a0_5 a0_6 a0_7 a0_8 a0_9 a0_10 a0_11 a0_12 a0_13 a0_14 a0_15 a0_16=some r)∧Aside0 (kq≤k)∧Aside0 (wc.heap[Ka]?=some (.cells #[I L a0_0,I L a0_1,I L a0_2,I L a0_3,I L a0_4,I L a0_5,I L a0_6,I L a0_7,I L a0_8,I L a0_9,I L a0_10,I L a0_11,I L a0_12,I L a0_13,I L a0_14,I L a0_15,I L a0_16] 36 (0,0)))∧Aside0 (Below w.heap.size w wc))
 case first =>
  have H := HC2.out; clear HC2
  by_cases c5 : a0_0 = 2
  ·rw [if_pos c5] at H
   have c5b0:(a0_0 == 2)=true:=beq_iff_eq.mpr c5;have c5b1:(a0_0 != 2)=false:=bne_eq_false_iff_eq.mpr c5;clear c5;refine rw_ c5b0 ?_;have H':=D H;clear H;obtain ⟨Og,Ug,Xg,Jh,Kh,Mh,Oh,Uh,Xh,Ji,Ki,Mi,Oi,Ui,Xi,Jj,Kj,Mj,Oj,Uj,Xj,Jk,Kk,Mk,Ok,Uk,Xk,Jm,Km,Mm,Om,Um,Xm,Jn⟩:=cells17 Ja.out
   go_wp2_with (first|((with_reducible refine gld_ 34 rfl ?_);(first|refine la34o1_ ?_|refine la34o7_ ?_))|((with_reducible refine gld_ 3 rfl ?_);refine lc3_ ?_)|((with_reducible refine gst_ 36 rfl ?_);refine sa36_ ?_)|((with_reducible refine gld_ 36 rfl ?_);refine la36_ ?_))
   go_meet
   case rel => exact ⟨_, (true), Z22, H', ⟨by first | omega | exact Nat.le_refl _⟩, ⟨pk_ Ja.out⟩, ⟨pB_ HB.out⟩⟩
  ·rw [if_neg c5] at H
   have c5b0:(a0_0 == 2)=false:=beq_eq_false_iff_ne.mpr c5;have c5b1:(a0_0 != 2)=true:=bne_iff_ne.mpr c5;refine rw_ c5b0 ?_;have H':=D H;clear H;obtain ⟨Kn,Mn,On,Un,Xn,Jo,Ko,Mo,Oo,Uo,Xo,Jp,Kp,Mp,Op,Up,Xp,Jq,Kq,Mq,Oq,Uq,Xq,Jr,Kr,Mr,Or,Ur,Xr,Js,Ks,Ms,Os,Us⟩:=cells17 Ja.out
   go_wp2_with (first|((with_reducible refine gld_ 34 rfl ?_);(first|refine la34o1_ ?_|refine la34o7_ ?_))|((with_reducible refine gld_ 3 rfl ?_);refine lc3_ ?_)|((with_reducible refine gst_ 36 rfl ?_);refine sa36_ ?_)|((with_reducible refine gld_ 36 rfl ?_);refine la36_ ?_))
   go_meet
   case rel => exact ⟨_, ((a0_0 == 3)), Z22, H', ⟨by first | omega | exact Nat.le_refl _⟩, ⟨pk_ Ja.out⟩, ⟨pB_ HB.out⟩⟩
 case rest =>
  clear HC2
  (try clear c2);(try clear p2);(try clear c5);(try clear c5b0);(try clear c5b1);(try clear Xa Jb Oc Uc Xc Jd Kd Md Od Kb Mb Ob Ub Xb Jc Kc Mc Ud Xd Mf Of Uf Xf Jg Kg Mg Je Ke Me Oe Ue Xe Jf Kf);(try clear Og Ug Ki Mi Oi Ui Xi Jj Kj Xg Jh Kh Mh Oh Uh Xh Ji Mj Oj Jm Km Mm Om Um Xm Jn Uj Xj Jk Kk Mk Ok Uk Xk);(try clear Kn Mn Xo Jp Kp Mp Op Up Xp On Un Xn Jo Ko Mo Oo Uo Jq Kq Ur Xr Js Ks Ms Os Us Mq Oq Uq Xq Jr Kr Mr Or)
  obtain ⟨kq, x4_1, rfl, HA, HJ1, Ja, HB⟩ := hcut
  cases kq with
  | zero => exact absurd HA.out (by simp [spec_ModuleOk.j0])
  | succ kj1 =>
   have H := HA.out; clear HA; simp only [spec_ModuleOk.j0] at H; have HC8 := D H; clear H
   go_upto_region 3 with (first|((with_reducible refine gld_ 34 rfl ?_);(first|refine la34o1_ ?_|refine la34o7_ ?_))|((with_reducible refine gld_ 3 rfl ?_);refine lc3_ ?_)|((with_reducible refine gst_ 36 rfl ?_);refine sa36_ ?_)|((with_reducible refine gld_ 36 rfl ?_);refine la36_ ?_))
   go_cut [5] (fun v5 wc=>∃ (kq:Nat) (x5_7:Bool),v5=.bool x5_7∧Aside0 (spec_ModuleOk.j1 kq (a0_0 == 1) x4_1 x5_7 a0_0 a0_1 a0_2 a0_3 a0_4 a0_5 a0_6 a0_7 a0_8 a0_9 a0_10 a0_11 a0_12 a0_13 a0_14 a0_15 a0_16=some r)∧Aside0 (kq≤kj1)∧Aside0 (wc.heap[Ka]?=some (.cells #[I L a0_0,I L a0_1,I L a0_2,I L a0_3,I L a0_4,I L a0_5,I L a0_6,I L a0_7,I L a0_8,I L a0_9,I L a0_10,I L a0_11,I L a0_12,I L a0_13,I L a0_14,I L a0_15,I L a0_16] 36 (0,0)))∧Aside0 (Below w.heap.size w wc))
   case first =>
    have H := HC8.out; clear HC8
    by_cases c9 : a0_0 = 5
    ·rw [if_pos c9] at H
     have c9b0:(a0_0 == 5)=true:=beq_iff_eq.mpr c9;have c9b1:(a0_0 != 5)=false:=bne_eq_false_iff_eq.mpr c9;clear c9;refine rw_ c9b0 ?_;have H':=D H;clear H;obtain ⟨Xs,Ju,Ku,Mu,Ou,Uu,Xu,Jv,Kv,Mv,Ov,Uv,Xv,Jx,Kx,Mx,Ox,Ux,Xx,Jy,Ky,My,Oy,Uy,Xy,Jz,Kz,Mz,Oz,Uz,Xz,Ja1,Ka1,Ma1⟩:=cells17 Ja.out
     go_wp2_with (first|((with_reducible refine gld_ 34 rfl ?_);(first|refine la34o1_ ?_|refine la34o7_ ?_))|((with_reducible refine gld_ 3 rfl ?_);refine lc3_ ?_)|((with_reducible refine gst_ 36 rfl ?_);refine sa36_ ?_)|((with_reducible refine gld_ 36 rfl ?_);refine la36_ ?_))
     go_meet
     case rel => exact ⟨_, (true), Z22, H', ⟨by have := HJ1.out; first | omega | exact Nat.le_refl _⟩, ⟨pk_ Ja.out⟩, ⟨pB_ HB.out⟩⟩
    ·rw [if_neg c9] at H
     have c9b0:(a0_0 == 5)=false:=beq_eq_false_iff_ne.mpr c9;have c9b1:(a0_0 != 5)=true:=bne_iff_ne.mpr c9;refine rw_ c9b0 ?_;have H':=D H;clear H;obtain ⟨Oa1,Ua1,Xa1,Jb1,Kb1,Mb1,Ob1,Ub1,Xb1,Jc1,Kc1,Mc1,Oc1,Uc1,Xc1,Jd1,Kd1,Md1,Od1,Ud1,Xd1,Je1,Ke1,Me1,Oe1,Ue1,Xe1,Jf1,Kf1,Mf1,Of1,Uf1,Xf1,Jg1⟩:=cells17 Ja.out
     go_wp2_with (first|((with_reducible refine gld_ 34 rfl ?_);(first|refine la34o1_ ?_|refine la34o7_ ?_))|((with_reducible refine gld_ 3 rfl ?_);refine lc3_ ?_)|((with_reducible refine gst_ 36 rfl ?_);refine sa36_ ?_)|((with_reducible refine gld_ 36 rfl ?_);refine la36_ ?_))
     go_meet
     case rel => exact ⟨_, ((a0_0 == 7)), Z22, H', ⟨by have := HJ1.out; first | omega | exact Nat.le_refl _⟩, ⟨pk_ Ja.out⟩, ⟨pB_ HB.out⟩⟩
   case rest =>
    clear HC8
    (try clear c2);(try clear p2);(try clear c5);(try clear c5b0);(try clear c5b1);(try clear c9);(try clear c9b0);(try clear c9b1);(try clear Xs Ju Ov Uv Xv Jx Kx Mx Ox Ku Mu Ou Uu Xu Jv Kv Mv Ux Xx Mz Oz Uz Xz Ja1 Ka1 Ma1 Jy Ky My Oy Uy Xy Jz Kz);(try clear Oa1 Ua1 Kc1 Mc1 Oc1 Uc1 Xc1 Jd1 Kd1 Xa1 Jb1 Kb1 Mb1 Ob1 Ub1 Xb1 Jc1 Md1 Od1 Jf1 Kf1 Mf1 Of1 Uf1 Xf1 Jg1 Ud1 Xd1 Je1 Ke1 Me1 Oe1 Ue1 Xe1);(try clear Xa Jb Oc Uc Xc Jd Kd Md Od Kb Mb Ob Ub Xb Jc Kc Mc Ud Xd Mf Of Uf Xf Jg Kg Mg Je Ke Me Oe Ue Xe Jf Kf);(try clear Og Ug Ki Mi Oi Ui Xi Jj Kj Xg Jh Kh Mh Oh Uh Xh Ji Mj Oj Jm Km Mm Om Um Xm Jn Uj Xj Jk Kk Mk Ok Uk Xk);(try clear Kn Mn Xo Jp Kp Mp Op Up Xp On Un Xn Jo Ko Mo Oo Uo Jq Kq Ur Xr Js Ks Ms Os Us Mq Oq Uq Xq Jr Kr Mr Or);(try clear p2)
    obtain ⟨kq, x5_7, rfl, HA, HJ7, Ja, HB⟩ := hcut
    cases kq with
    | zero => exact absurd HA.out (by simp [spec_ModuleOk.j1])
    | succ kj7 =>
     have H := HA.out; clear HA; simp only [spec_ModuleOk.j1] at H; have HC12 := D H; clear H
     go_upto_region 4 with (first|((with_reducible refine gld_ 34 rfl ?_);(first|refine la34o1_ ?_|refine la34o7_ ?_))|((with_reducible refine gld_ 3 rfl ?_);refine lc3_ ?_)|((with_reducible refine gst_ 36 rfl ?_);refine sa36_ ?_)|((with_reducible refine gld_ 36 rfl ?_);refine la36_ ?_))
     go_cut [32] (fun v32 wc=>∃ (kq:Nat) (Ma:Bool),v32=.bool Ma∧Aside0 (spec_ModuleOk.j2 kq (a0_0 == 1) x4_1 x5_7 Ma a0_0 a0_1 a0_2 a0_3 a0_4 a0_5 a0_6 a0_7 a0_8 a0_9 a0_10 a0_11 a0_12 a0_13 a0_14 a0_15 a0_16=some r)∧Aside0 (kq≤kj7)∧Aside0 (wc.heap[Ka]?=some (.cells #[I L a0_0,I L a0_1,I L a0_2,I L a0_3,I L a0_4,I L a0_5,I L a0_6,I L a0_7,I L a0_8,I L a0_9,I L a0_10,I L a0_11,I L a0_12,I L a0_13,I L a0_14,I L a0_15,I L a0_16] 36 (0,0)))∧Aside0 (Below w.heap.size w wc))
     case first =>
      have H := HC12.out; clear HC12
      by_cases c13 : a0_0 < 1
      ·rw [if_pos c13] at H
       have c13b0:decide (a0_0 < 1)=true:=decide_eq_true c13;clear c13;refine rw_ c13b0 ?_;have H':=D H;clear H;obtain ⟨Me3,Oe3,Ue3,Xe3,Jf3,Kf3,Mf3,Of3,Uf3,Xf3,Jg3,Kg3,Mg3,Og3,Ug3,Xg3,Jh3,Kh3,Mh3,Oh3,Uh3,Xh3,Ji3,Ki3,Mi3,Oi3,Ui3,Xi3,Jj3,Kj3,Mj3,Oj3,Uj3,Xj3⟩:=cells17 Ja.out
       go_wp2_with (first|((with_reducible refine gld_ 34 rfl ?_);(first|refine la34o1_ ?_|refine la34o7_ ?_))|((with_reducible refine gld_ 3 rfl ?_);refine lc3_ ?_)|((with_reducible refine gst_ 36 rfl ?_);refine sa36_ ?_)|((with_reducible refine gld_ 36 rfl ?_);refine la36_ ?_))
       go_meet
       case rel => exact ⟨_, (true), Z22, H', ⟨by have := HJ1.out; have := HJ7.out; first | omega | exact Nat.le_refl _⟩, ⟨pk_ Ja.out⟩, ⟨pB_ HB.out⟩⟩
      ·rw [if_neg c13] at H
       have c13b0:decide (a0_0 < 1)=false:=decide_eq_false c13;clear c13;refine rw_ c13b0 ?_;have H':=D H;clear H;obtain ⟨Jk3,Kk3,Mk3,Ok3,Uk3,Xk3,Jm3,Km3,Mm3,Om3,Um3,Xm3,Jn3,Kn3,Mn3,On3,Un3,Xn3,Jo3,Ko3,Mo3,Oo3,Uo3,Xo3,Jp3,Kp3,Mp3,Op3,Up3,Xp3,Jq3,Kq3,Mq3,Oq3⟩:=cells17 Ja.out
       go_wp2_with (first|((with_reducible refine gld_ 34 rfl ?_);(first|refine la34o1_ ?_|refine la34o7_ ?_))|((with_reducible refine gld_ 3 rfl ?_);refine lc3_ ?_)|((with_reducible refine gst_ 36 rfl ?_);refine sa36_ ?_)|((with_reducible refine gld_ 36 rfl ?_);refine la36_ ?_))
       go_meet
       case rel => exact ⟨_, (decide (a0_0 > 7)), Z22, H', ⟨by have := HJ1.out; have := HJ7.out; first | omega | exact Nat.le_refl _⟩, ⟨pk_ Ja.out⟩, ⟨pB_ HB.out⟩⟩
     case rest =>
      clear HC12
      (try clear c1);(try clear c2);(try clear p2);(try clear c5);(try clear c5b0);(try clear c5b1);(try clear c9);(try clear c9b0);(try clear c9b1);(try clear c13);(try clear c13b0);(try clear Xs Ju Ov Uv Xv Jx Kx Mx Ox Ku Mu Ou Uu Xu Jv Kv Mv Ux Xx Mz Oz Uz Xz Ja1 Ka1 Ma1 Jy Ky My Oy Uy Xy Jz Kz);(try clear Oa1 Ua1 Kc1 Mc1 Oc1 Uc1 Xc1 Jd1 Kd1 Xa1 Jb1 Kb1 Mb1 Ob1 Ub1 Xb1 Jc1 Md1 Od1 Jf1 Kf1 Mf1 Of1 Uf1 Xf1 Jg1 Ud1 Xd1 Je1 Ke1 Me1 Oe1 Ue1 Xe1);(try clear Me3 Oe3 Jg3 Kg3 Mg3 Og3 Ug3 Xg3 Jh3 Ue3 Xe3 Jf3 Kf3 Mf3 Of3 Uf3 Xf3 Kh3 Mh3 Xi3 Jj3 Kj3 Mj3 Oj3 Uj3 Xj3 Oh3 Uh3 Xh3 Ji3 Ki3 Mi3 Oi3 Ui3);(try clear Jk3 Kk3 Um3 Xm3 Jn3 Kn3 Mn3 On3 Un3 Mk3 Ok3 Uk3 Xk3 Jm3 Km3 Mm3 Om3 Xn3 Jo3 Op3 Up3 Xp3 Jq3 Kq3 Mq3 Oq3 Ko3 Mo3 Oo3 Uo3 Xo3 Jp3 Kp3 Mp3);(try clear Xa Jb Oc Uc Xc Jd Kd Md Od Kb Mb Ob Ub Xb Jc Kc Mc Ud Xd Mf Of Uf Xf Jg Kg Mg Je Ke Me Oe Ue Xe Jf Kf);(try clear Og Ug Ki Mi Oi Ui Xi Jj Kj Xg Jh Kh Mh Oh Uh Xh Ji Mj Oj Jm Km Mm Om Um Xm Jn Uj Xj Jk Kk Mk Ok Uk Xk);(try clear Kn Mn Xo Jp Kp Mp Op Up Xp On Un Xn Jo Ko Mo Oo Uo Jq Kq Ur Xr Js Ks Ms Os Us Mq Oq Uq Xq Jr Kr Mr Or);(try clear p2)
      obtain ⟨kq, Ma, rfl, HA, HJ11, Ja, HB⟩ := hcut
      cases kq with
      | zero => exact absurd HA.out (by simp [spec_ModuleOk.j2])
      | succ kj11 =>
       have H := HA.out; clear HA; simp only [spec_ModuleOk.j2] at H
       by_cases c16 : Ma = true
       ·subst c16
        rw [if_pos rfl] at H; obtain rfl := Option.some.inj H
        go_wp2_with (first|((with_reducible refine gld_ 34 rfl ?_);(first|refine la34o1_ ?_|refine la34o7_ ?_))|((with_reducible refine gld_ 3 rfl ?_);refine lc3_ ?_)|((with_reducible refine gst_ 36 rfl ?_);refine sa36_ ?_)|((with_reducible refine gld_ 36 rfl ?_);refine la36_ ?_))
        go_ret; exact ⟨er_, pB_ HB.out⟩
       ·replace c16 := Bool.eq_false_iff.mpr c16
        subst c16; rw [if_neg (show ¬ (false = true) by decide)] at H; have HC17 := D H; clear H
        go_upto_region 6 with (first|((with_reducible refine gld_ 34 rfl ?_);(first|refine la34o1_ ?_|refine la34o7_ ?_))|((with_reducible refine gld_ 3 rfl ?_);refine lc3_ ?_)|((with_reducible refine gst_ 36 rfl ?_);refine sa36_ ?_)|((with_reducible refine gld_ 36 rfl ?_);refine la36_ ?_))
        go_cut [3,78] (fun v3 v78 wc=>∃ (kq:Nat) (Oa:Bool),v3=.bool (a0_0 == 1)∧v78=.bool Oa∧Aside0 (spec_ModuleOk.j3 kq Oa a0_0 a0_1 a0_2 a0_3 a0_4 a0_5 a0_6 a0_7 a0_8 a0_9 a0_10 a0_11 a0_12 a0_13 a0_14 a0_15 a0_16=some r)∧Aside0 (kq≤kj11)∧Aside0 (wc.heap[Ka]?=some (.cells #[I L a0_0,I L a0_1,I L a0_2,I L a0_3,I L a0_4,I L a0_5,I L a0_6,I L a0_7,I L a0_8,I L a0_9,I L a0_10,I L a0_11,I L a0_12,I L a0_13,I L a0_14,I L a0_15,I L a0_16] 36 (0,0)))∧Aside0 (Below w.heap.size w wc))
        case first =>
         have H := HC17.out; clear HC17
         by_cases c18 : (a0_0 == 1) = true
         ·rw [if_pos c18] at H
          have c18b0:(a0_0 == 1)=true:=c18;(try (have c18b1:decide (a0_0=1)=true:=by simpa using c18));(try (have c18b2:(a0_0 == 1)=true:=by simpa using c18));clear c18;refine rw_ c18b0 ?_
          by_cases c19 : x5_7 = true
          ·subst c19
           rw [if_pos rfl] at H; have H' := D H; clear H
           go_wp2_with (first|((with_reducible refine gld_ 34 rfl ?_);(first|refine la34o1_ ?_|refine la34o7_ ?_))|((with_reducible refine gld_ 3 rfl ?_);refine lc3_ ?_)|((with_reducible refine gst_ 36 rfl ?_);refine sa36_ ?_)|((with_reducible refine gld_ 36 rfl ?_);refine la36_ ?_))
           go_meet
           case rel => exact ⟨_, (false), (by first|rfl|rw [show (a0_0 == 1)=true by assumption]|rw [show (a0_0 == 1)=false by assumption]),Z22, H', ⟨by have := HJ1.out; have := HJ7.out; have := HJ11.out; first | omega | exact Nat.le_refl _⟩, ⟨pk_ Ja.out⟩, ⟨pB_ HB.out⟩⟩
          ·replace c19 := Bool.eq_false_iff.mpr c19
           subst c19; rw [if_neg (show ¬ (false = true) by decide)] at H
           by_cases c20 : a0_16 = 0
           ·rw [if_pos c20] at H
            have c20b0:(a0_16 == 0)=true:=beq_iff_eq.mpr c20;have c20b1:(a0_16 != 0)=false:=bne_eq_false_iff_eq.mpr c20;clear c20;have H':=D H;clear H;obtain ⟨Uq3,Xq3,Jr3,Kr3,Mr3,Or3,Ur3,Xr3,Js3,Ks3,Ms3,Os3,Us3,Xs3,Ju3,Ku3,Mu3,Kg1,Mg1,Og1,Ug1,Xg1,Jh1,Kh1,Mh1,Oh1,Uh1,Xh1,Ji1,Ki1,Mi1,Oi1,Ui1,Xi1⟩:=cells17 Ja.out
            go_wp2_with (first|((with_reducible refine gld_ 34 rfl ?_);(first|refine la34o1_ ?_|refine la34o7_ ?_))|((with_reducible refine gld_ 3 rfl ?_);refine lc3_ ?_)|((with_reducible refine gst_ 36 rfl ?_);refine sa36_ ?_)|((with_reducible refine gld_ 36 rfl ?_);refine la36_ ?_))
            go_meet
            case rel => exact ⟨_, (false), (by first|rfl|rw [show (a0_0 == 1)=true by assumption]|rw [show (a0_0 == 1)=false by assumption]),Z22, H', ⟨by have := HJ1.out; have := HJ7.out; have := HJ11.out; first | omega | exact Nat.le_refl _⟩, ⟨pk_ Ja.out⟩, ⟨pB_ HB.out⟩⟩
           ·rw [if_neg c20] at H
            have c20b0:(a0_16 == 0)=false:=beq_eq_false_iff_ne.mpr c20;have c20b1:(a0_16 != 0)=true:=bne_iff_ne.mpr c20;have H':=D H;clear H;obtain ⟨Ou3,Uu3,Xu3,Jv3,Kv3,Mv3,Ov3,Uv3,Xv3,Jx3,Kx3,Mx3,Ox3,Ux3,Xx3,Jy3,Ky3,Jj1,Kj1,Mj1,Oj1,Uj1,Xj1,Jk1,Kk1,Mk1,Ok1,Uk1,Xk1,Jm1,Km1,Mm1,Om1,Um1⟩:=cells17 Ja.out
            go_wp2_with (first|((with_reducible refine gld_ 34 rfl ?_);(first|refine la34o1_ ?_|refine la34o7_ ?_))|((with_reducible refine gld_ 3 rfl ?_);refine lc3_ ?_)|((with_reducible refine gst_ 36 rfl ?_);refine sa36_ ?_)|((with_reducible refine gld_ 36 rfl ?_);refine la36_ ?_))
            go_meet
            case rel => exact ⟨_, (true), (by first|rfl|rw [show (a0_0 == 1)=true by assumption]|rw [show (a0_0 == 1)=false by assumption]),Z22, H', ⟨by have := HJ1.out; have := HJ7.out; have := HJ11.out; first | omega | exact Nat.le_refl _⟩, ⟨pk_ Ja.out⟩, ⟨pB_ HB.out⟩⟩
         ·rw [if_neg c18] at H
          have c18b0 : (a0_0 == 1) = false := by simpa using c18
          (try (have c18b1:decide (a0_0=1)=false:=by simpa using c18));(try (have c18b2:(a0_0 == 1)=false:=by simpa using c18));(try (have c18b3:¬ (a0_0=1):=by simpa using c18));clear c18;refine rw_ c18b0 ?_
          by_cases c23 : a0_13 = 0
          ·rw [if_pos c23] at H
           have c23b0 : (a0_13 == 0) = true := beq_iff_eq.mpr c23; have c23b1 : (a0_13 != 0) = false := bne_eq_false_iff_eq.mpr c23; clear c23
           by_cases c24 : a0_14 = 0
           ·rw [if_pos c24] at H
            have c24b0 : (a0_14 == 0) = true := beq_iff_eq.mpr c24; have c24b1 : (a0_14 != 0) = false := bne_eq_false_iff_eq.mpr c24; clear c24
            by_cases c25 : a0_15 = 0
            ·rw [if_pos c25] at H
             have c25b0 : (a0_15 == 0) = true := beq_iff_eq.mpr c25; have c25b1 : (a0_15 != 0) = false := bne_eq_false_iff_eq.mpr c25; clear c25
             by_cases c26 : x5_7 = true
             ·subst c26
              rw [if_pos rfl] at H
              by_cases c27 : x4_1 = true
              ·subst c27
               rw [if_pos rfl] at H;have H':=D H;clear H;obtain ⟨My3,Oy3,Uy3,Xy3,Jz3,Kz3,Mz3,Oz3,Uz3,Xz3,Ja4,Ka4,Ma4,Oa4,Ua4,Xa4,Jb4,Xm1,Jn1,Kn1,Mn1,On1,Un1,Xn1,Jo1,Ko1,Mo1,Oo1,Uo1,Xo1,Jp1,Kp1,Mp1,Op1⟩:=cells17 Ja.out
               go_wp2_with (first|((with_reducible refine gld_ 34 rfl ?_);(first|refine la34o1_ ?_|refine la34o7_ ?_))|((with_reducible refine gld_ 3 rfl ?_);refine lc3_ ?_)|((with_reducible refine gst_ 36 rfl ?_);refine sa36_ ?_)|((with_reducible refine gld_ 36 rfl ?_);refine la36_ ?_))
               go_meet
               case rel => exact ⟨_, (false), (by first|rfl|rw [show (a0_0 == 1)=true by assumption]|rw [show (a0_0 == 1)=false by assumption]),Z22, H', ⟨by have := HJ1.out; have := HJ7.out; have := HJ11.out; first | omega | exact Nat.le_refl _⟩, ⟨pk_ Ja.out⟩, ⟨pB_ HB.out⟩⟩
              ·replace c27 := Bool.eq_false_iff.mpr c27
               subst c27; rw [if_neg (show ¬ (false = true) by decide)] at H; obtain ⟨Kb4, A290, H⟩ := bs_.mp H; (try dsimp only at H); have A29 := D A290; clear A290
               by_cases c30 : Kb4 = true
               ·subst c30
                rw [if_pos rfl] at H;obtain ⟨Up1,A310,H⟩:=bs_.mp H;(try dsimp only at H);have A31:=D A310;clear A310;have H':=D H;clear H;obtain ⟨Mb4,Ob4,Ub4,Xb4,Jc4,Kc4,Mc4,Oc4,Uc4,Xc4,Jd4,Kd4,Md4,Od4,Ud4,Xd4,Je4,Xp1,Jq1,Kq1,Mq1,Oq1,Uq1,Xq1,Jr1,Kr1,Mr1,Or1,Ur1,Xr1,Js1,Ks1,Ms1,Os1⟩:=cells17 Ja.out
                go_wp2_with (first|((with_reducible refine gld_ 34 rfl ?_);(first|refine la34o1_ ?_|refine la34o7_ ?_))|((with_reducible refine gld_ 3 rfl ?_);refine lc3_ ?_)|((with_reducible refine gst_ 36 rfl ?_);refine sa36_ ?_)|((with_reducible refine gld_ 36 rfl ?_);refine la36_ ?_)|(go_at_call 44;(with_reducible refine (spec_l03Any.calls a0_1 a0_2 a0_3 a0_4 a0_5 a0_6 true _ A29.out).mono ?_);rintro e w33 ⟨rfl,hb⟩;have n_:=an_ (blk_below (pk_ Ja.out) hb)<|D (below_step (pB_ HB.out) hb);clear Ja HB;obtain ⟨Ja,HB⟩:=n_;(try clear hb);obtain ⟨Ke4,Me4,Oe4,Ue4,Xe4,Jf4,Kf4,Mf4,Of4,Uf4,Xf4,Jg4,Kg4,Mg4,Og4,Ug4,Xg4,Us1,Xs1,Ju1,Ku1,Mu1,Ou1,Uu1,Xu1,Jv1,Kv1,Mv1,Ov1,Uv1,Xv1,Jx1,Kx1,Mx1⟩:=cells17 Ja.out)|(go_at_call 44;(with_reducible refine (spec_l03Any.calls a0_7 a0_8 a0_9 a0_10 a0_11 a0_12 Up1 _ A31.out).mono ?_);rintro e w35 ⟨rfl,hb⟩;have n_:=an_ (blk_below (pk_ Ja.out) hb)<|D (below_step (pB_ HB.out) hb);clear Ja HB;obtain ⟨Ja,HB⟩:=n_;(try clear hb)))
                go_meet
                case rel => exact ⟨_, (!Up1), (by first|rfl|rw [show (a0_0 == 1)=true by assumption]|rw [show (a0_0 == 1)=false by assumption]),Z22, H', ⟨by have := HJ1.out; have := HJ7.out; have := HJ11.out; first | omega | exact Nat.le_refl _⟩, ⟨pk_ Ja.out⟩, ⟨pB_ HB.out⟩⟩
               ·replace c30 := Bool.eq_false_iff.mpr c30
                subst c30;rw [if_neg (show ¬ (false=true) by decide)] at H;have H':=D H;clear H;obtain ⟨Jh4,Kh4,Mh4,Oh4,Uh4,Xh4,Ji4,Ki4,Mi4,Oi4,Ui4,Xi4,Jj4,Kj4,Mj4,Oj4,Uj4,Ox1,Ux1,Xx1,Jy1,Ky1,My1,Oy1,Uy1,Xy1,Jz1,Kz1,Mz1,Oz1,Uz1,Xz1,Ja2,Ka2⟩:=cells17 Ja.out
                go_wp2_with (first|((with_reducible refine gld_ 34 rfl ?_);(first|refine la34o1_ ?_|refine la34o7_ ?_))|((with_reducible refine gld_ 3 rfl ?_);refine lc3_ ?_)|((with_reducible refine gst_ 36 rfl ?_);refine sa36_ ?_)|((with_reducible refine gld_ 36 rfl ?_);refine la36_ ?_)|(go_at_call 44;(with_reducible refine (spec_l03Any.calls a0_1 a0_2 a0_3 a0_4 a0_5 a0_6 false _ A29.out).mono ?_);rintro e w37 ⟨rfl,hb⟩;have n_:=an_ (blk_below (pk_ Ja.out) hb)<|D (below_step (pB_ HB.out) hb);clear Ja HB;obtain ⟨Ja,HB⟩:=n_;(try clear hb)))
                go_meet
                case rel => exact ⟨_, (true), (by first|rfl|rw [show (a0_0 == 1)=true by assumption]|rw [show (a0_0 == 1)=false by assumption]),Z22, H', ⟨by have := HJ1.out; have := HJ7.out; have := HJ11.out; first | omega | exact Nat.le_refl _⟩, ⟨pk_ Ja.out⟩, ⟨pB_ HB.out⟩⟩
             ·replace c26 := Bool.eq_false_iff.mpr c26
              subst c26; rw [if_neg (show ¬ (false = true) by decide)] at H
              by_cases c38 : a0_16 = 0
              ·rw [if_pos c38] at H
               have c38b0 : (a0_16 == 0) = true := beq_iff_eq.mpr c38; have c38b1 : (a0_16 != 0) = false := bne_eq_false_iff_eq.mpr c38; clear c38
               by_cases c39 : x4_1 = true
               ·subst c39
                rw [if_pos rfl] at H;have H':=D H;clear H;obtain ⟨Xj4,Jk4,Kk4,Mk4,Ok4,Uk4,Xk4,Jm4,Km4,Mm4,Om4,Um4,Xm4,Jn4,Kn4,Mn4,On4,Ma2,Oa2,Ua2,Xa2,Jb2,Kb2,Mb2,Ob2,Ub2,Xb2,Jc2,Kc2,Mc2,Oc2,Uc2,Xc2,Jd2⟩:=cells17 Ja.out
                go_wp2_with (first|((with_reducible refine gld_ 34 rfl ?_);(first|refine la34o1_ ?_|refine la34o7_ ?_))|((with_reducible refine gld_ 3 rfl ?_);refine lc3_ ?_)|((with_reducible refine gst_ 36 rfl ?_);refine sa36_ ?_)|((with_reducible refine gld_ 36 rfl ?_);refine la36_ ?_))
                go_meet
                case rel => exact ⟨_, (false), (by first|rfl|rw [show (a0_0 == 1)=true by assumption]|rw [show (a0_0 == 1)=false by assumption]),Z22, H', ⟨by have := HJ1.out; have := HJ7.out; have := HJ11.out; first | omega | exact Nat.le_refl _⟩, ⟨pk_ Ja.out⟩, ⟨pB_ HB.out⟩⟩
               ·replace c39 := Bool.eq_false_iff.mpr c39
                subst c39; rw [if_neg (show ¬ (false = true) by decide)] at H; obtain ⟨Un4, A410, H⟩ := bs_.mp H; (try dsimp only at H); have A41 := D A410; clear A410
                by_cases c42 : Un4 = true
                ·subst c42
                 rw [if_pos rfl] at H;obtain ⟨Kd2,A430,H⟩:=bs_.mp H;(try dsimp only at H);have A43:=D A430;clear A430;have H':=D H;clear H;obtain ⟨Xn4,Jo4,Ko4,Mo4,Oo4,Uo4,Xo4,Jp4,Kp4,Mp4,Op4,Up4,Xp4,Jq4,Kq4,Mq4,Oq4,Md2,Od2,Ud2,Xd2,Je2,Ke2,Me2,Oe2,Ue2,Xe2,Jf2,Kf2,Mf2,Of2,Uf2,Xf2,Jg2⟩:=cells17 Ja.out
                 go_wp2_with (first|((with_reducible refine gld_ 34 rfl ?_);(first|refine la34o1_ ?_|refine la34o7_ ?_))|((with_reducible refine gld_ 3 rfl ?_);refine lc3_ ?_)|((with_reducible refine gst_ 36 rfl ?_);refine sa36_ ?_)|((with_reducible refine gld_ 36 rfl ?_);refine la36_ ?_)|(go_at_call 44;(with_reducible refine (spec_l03Any.calls a0_1 a0_2 a0_3 a0_4 a0_5 a0_6 true _ A41.out).mono ?_);rintro e w45 ⟨rfl,hb⟩;have n_:=an_ (blk_below (pk_ Ja.out) hb)<|D (below_step (pB_ HB.out) hb);clear Ja HB;obtain ⟨Ja,HB⟩:=n_;(try clear hb);obtain ⟨Uq4,Xq4,Jr4,Kr4,Mr4,Or4,Ur4,Xr4,Js4,Ks4,Ms4,Os4,Us4,Xs4,Ju4,Ku4,Mu4,Kg2,Mg2,Og2,Ug2,Xg2,Jh2,Kh2,Mh2,Oh2,Uh2,Xh2,Ji2,Ki2,Mi2,Oi2,Ui2,Xi2⟩:=cells17 Ja.out)|(go_at_call 44;(with_reducible refine (spec_l03Any.calls a0_7 a0_8 a0_9 a0_10 a0_11 a0_12 Kd2 _ A43.out).mono ?_);rintro e w47 ⟨rfl,hb⟩;have n_:=an_ (blk_below (pk_ Ja.out) hb)<|D (below_step (pB_ HB.out) hb);clear Ja HB;obtain ⟨Ja,HB⟩:=n_;(try clear hb)))
                 go_meet
                 case rel => exact ⟨_, (!Kd2), (by first|rfl|rw [show (a0_0 == 1)=true by assumption]|rw [show (a0_0 == 1)=false by assumption]),Z22, H', ⟨by have := HJ1.out; have := HJ7.out; have := HJ11.out; first | omega | exact Nat.le_refl _⟩, ⟨pk_ Ja.out⟩, ⟨pB_ HB.out⟩⟩
                ·replace c42 := Bool.eq_false_iff.mpr c42
                 subst c42;rw [if_neg (show ¬ (false=true) by decide)] at H;have H':=D H;clear H;obtain ⟨Ou4,Uu4,Xu4,Jv4,Kv4,Mv4,Ov4,Uv4,Xv4,Jx4,Kx4,Mx4,Ox4,Ux4,Xx4,Jy4,Ky4,Jj2,Kj2,Mj2,Oj2,Uj2,Xj2,Jk2,Kk2,Mk2,Ok2,Uk2,Xk2,Jm2,Km2,Mm2,Om2,Um2⟩:=cells17 Ja.out
                 go_wp2_with (first|((with_reducible refine gld_ 34 rfl ?_);(first|refine la34o1_ ?_|refine la34o7_ ?_))|((with_reducible refine gld_ 3 rfl ?_);refine lc3_ ?_)|((with_reducible refine gst_ 36 rfl ?_);refine sa36_ ?_)|((with_reducible refine gld_ 36 rfl ?_);refine la36_ ?_)|(go_at_call 44;(with_reducible refine (spec_l03Any.calls a0_1 a0_2 a0_3 a0_4 a0_5 a0_6 false _ A41.out).mono ?_);rintro e w49 ⟨rfl,hb⟩;have n_:=an_ (blk_below (pk_ Ja.out) hb)<|D (below_step (pB_ HB.out) hb);clear Ja HB;obtain ⟨Ja,HB⟩:=n_;(try clear hb)))
                 go_meet
                 case rel => exact ⟨_, (true), (by first|rfl|rw [show (a0_0 == 1)=true by assumption]|rw [show (a0_0 == 1)=false by assumption]),Z22, H', ⟨by have := HJ1.out; have := HJ7.out; have := HJ11.out; first | omega | exact Nat.le_refl _⟩, ⟨pk_ Ja.out⟩, ⟨pB_ HB.out⟩⟩
              ·rw [if_neg c38] at H
               have c38b0:(a0_16 == 0)=false:=beq_eq_false_iff_ne.mpr c38;have c38b1:(a0_16 != 0)=true:=bne_iff_ne.mpr c38;have H':=D H;clear H;obtain ⟨My4,Oy4,Uy4,Xy4,Jz4,Kz4,Mz4,Oz4,Uz4,Xz4,Ja5,Ka5,Ma5,Oa5,Ua5,Xa5,Jb5,Xm2,Jn2,Kn2,Mn2,On2,Un2,Xn2,Jo2,Ko2,Mo2,Oo2,Uo2,Xo2,Jp2,Kp2,Mp2,Op2⟩:=cells17 Ja.out
               go_wp2_with (first|((with_reducible refine gld_ 34 rfl ?_);(first|refine la34o1_ ?_|refine la34o7_ ?_))|((with_reducible refine gld_ 3 rfl ?_);refine lc3_ ?_)|((with_reducible refine gst_ 36 rfl ?_);refine sa36_ ?_)|((with_reducible refine gld_ 36 rfl ?_);refine la36_ ?_))
               go_meet
               case rel => exact ⟨_, (true), (by first|rfl|rw [show (a0_0 == 1)=true by assumption]|rw [show (a0_0 == 1)=false by assumption]),Z22, H', ⟨by have := HJ1.out; have := HJ7.out; have := HJ11.out; first | omega | exact Nat.le_refl _⟩, ⟨pk_ Ja.out⟩, ⟨pB_ HB.out⟩⟩
            ·rw [if_neg c25] at H
             have c25b0:(a0_15 == 0)=false:=beq_eq_false_iff_ne.mpr c25;have c25b1:(a0_15 != 0)=true:=bne_iff_ne.mpr c25;have H':=D H;clear H;obtain ⟨Kb5,Mb5,Ob5,Ub5,Xb5,Jc5,Kc5,Mc5,Oc5,Uc5,Xc5,Jd5,Kd5,Md5,Od5,Ud5,Xd5,Up2,Xp2,Jq2,Kq2,Mq2,Oq2,Uq2,Xq2,Jr2,Kr2,Mr2,Or2,Ur2,Xr2,Js2,Ks2,Ms2⟩:=cells17 Ja.out
             go_wp2_with (first|((with_reducible refine gld_ 34 rfl ?_);(first|refine la34o1_ ?_|refine la34o7_ ?_))|((with_reducible refine gld_ 3 rfl ?_);refine lc3_ ?_)|((with_reducible refine gst_ 36 rfl ?_);refine sa36_ ?_)|((with_reducible refine gld_ 36 rfl ?_);refine la36_ ?_))
             go_meet
             case rel => exact ⟨_, (true), (by first|rfl|rw [show (a0_0 == 1)=true by assumption]|rw [show (a0_0 == 1)=false by assumption]),Z22, H', ⟨by have := HJ1.out; have := HJ7.out; have := HJ11.out; first | omega | exact Nat.le_refl _⟩, ⟨pk_ Ja.out⟩, ⟨pB_ HB.out⟩⟩
           ·rw [if_neg c24] at H
            have c24b0:(a0_14 == 0)=false:=beq_eq_false_iff_ne.mpr c24;have c24b1:(a0_14 != 0)=true:=bne_iff_ne.mpr c24;have H':=D H;clear H;obtain ⟨Je5,Ke5,Os2,Us2,Xs2,Ju2,Ku2,Mu2,Ou2,Uu2,Me5,Oe5,Ue5,Xe5,Jf5,Kf5,Mf5,Xu2,Jv2,Kv2,Mv2,Ov2,Uv2,Xv2,Jx2,Kx2,Mx2,Ox2,Ux2,Xx2,Jy2,Ky2,My2,Oy2⟩:=cells17 Ja.out
            go_wp2_with (first|((with_reducible refine gld_ 34 rfl ?_);(first|refine la34o1_ ?_|refine la34o7_ ?_))|((with_reducible refine gld_ 3 rfl ?_);refine lc3_ ?_)|((with_reducible refine gst_ 36 rfl ?_);refine sa36_ ?_)|((with_reducible refine gld_ 36 rfl ?_);refine la36_ ?_))
            go_meet
            case rel => exact ⟨_, (true), (by first|rfl|rw [show (a0_0 == 1)=true by assumption]|rw [show (a0_0 == 1)=false by assumption]),Z22, H', ⟨by have := HJ1.out; have := HJ7.out; have := HJ11.out; first | omega | exact Nat.le_refl _⟩, ⟨pk_ Ja.out⟩, ⟨pB_ HB.out⟩⟩
          ·rw [if_neg c23] at H
           have c23b0:(a0_13 == 0)=false:=beq_eq_false_iff_ne.mpr c23;have c23b1:(a0_13 != 0)=true:=bne_iff_ne.mpr c23;have H':=D H;clear H;obtain ⟨Uy2,Xy2,Jz2,Kz2,Mz2,Oz2,Uz2,Xz2,Ja3,Ka3,Ma3,Oa3,Ua3,Xa3,Jb3,Kb3,Mb3,Ob3,Ub3,Xb3,Jc3,Kc3,Mc3,Oc3,Uc3,Xc3,Jd3,Kd3,Md3,Od3,Ud3,Xd3,Je3,Ke3⟩:=cells17 Ja.out
           go_wp2_with (first|((with_reducible refine gld_ 34 rfl ?_);(first|refine la34o1_ ?_|refine la34o7_ ?_))|((with_reducible refine gld_ 3 rfl ?_);refine lc3_ ?_)|((with_reducible refine gst_ 36 rfl ?_);refine sa36_ ?_)|((with_reducible refine gld_ 36 rfl ?_);refine la36_ ?_))
           go_meet
           case rel => exact ⟨_, (true), (by first|rfl|rw [show (a0_0 == 1)=true by assumption]|rw [show (a0_0 == 1)=false by assumption]),Z22, H', ⟨by have := HJ1.out; have := HJ7.out; have := HJ11.out; first | omega | exact Nat.le_refl _⟩, ⟨pk_ Ja.out⟩, ⟨pB_ HB.out⟩⟩
        case rest =>
         clear HC17
         (try clear c1);(try clear c2);(try clear p2);(try clear c3);(try clear c4);(try clear c18);(try clear c18b0);(try clear c18b1);(try clear c18b2);(try clear c20);(try clear c20b0);(try clear c20b1);(try clear c23);(try clear c23b0);(try clear c23b1);(try clear c24);(try clear c24b0);(try clear c24b1);(try clear c25);(try clear c25b0);(try clear c25b1);(try clear c26);(try clear c27);(try clear c30);(try clear c38);(try clear c38b0);(try clear c38b1);(try clear c39);(try clear c42);(try clear Uq3 Xq3 Ms3 Os3 Us3 Xs3 Ju3 Ku3 Mu3 Jr3 Kr3 Mr3 Or3 Ur3 Xr3 Js3 Ks3 Kg1 Mg1 Xh1 Ji1 Ki1 Mi1 Oi1 Ui1 Xi1 Og1 Ug1 Xg1 Jh1 Kh1 Mh1 Oh1 Uh1);(try clear Ou3 Uu3 Kx3 Mx3 Ox3 Ux3 Xx3 Jy3 Ky3 Xu3 Jv3 Kv3 Mv3 Ov3 Uv3 Xv3 Jx3 Jj1 Kj1 Uk1 Xk1 Jm1 Km1 Mm1 Om1 Um1 Mj1 Oj1 Uj1 Xj1 Jk1 Kk1 Mk1 Ok1);(try clear My3 Oy3 Ja4 Ka4 Ma4 Oa4 Ua4 Xa4 Jb4 Uy3 Xy3 Jz3 Kz3 Mz3 Oz3 Uz3 Xz3 Xm1 Jn1 Oo1 Uo1 Xo1 Jp1 Kp1 Mp1 Op1 Kn1 Mn1 On1 Un1 Xn1 Jo1 Ko1 Mo1);(try clear Mb4 Ob4 Jd4 Kd4 Md4 Od4 Ud4 Xd4 Je4 Ub4 Xb4 Jc4 Kc4 Mc4 Oc4 Uc4 Xc4 Xp1 Jq1 Or1 Ur1 Xr1 Js1 Ks1 Ms1 Os1 Kq1 Mq1 Oq1 Uq1 Xq1 Jr1 Kr1 Mr1);(try clear Ke4 Me4 Xf4 Jg4 Kg4 Mg4 Og4 Ug4 Xg4 Oe4 Ue4 Xe4 Jf4 Kf4 Mf4 Of4 Uf4 Us1 Xs1 Mv1 Ov1 Uv1 Xv1 Jx1 Kx1 Mx1 Ju1 Ku1 Mu1 Ou1 Uu1 Xu1 Jv1 Kv1);(try clear Jh4 Kh4 Ui4 Xi4 Jj4 Kj4 Mj4 Oj4 Uj4 Mh4 Oh4 Uh4 Xh4 Ji4 Ki4 Mi4 Oi4 Ox1 Ux1 Kz1 Mz1 Oz1 Uz1 Xz1 Ja2 Ka2 Xx1 Jy1 Ky1 My1 Oy1 Uy1 Xy1 Jz1);(try clear Xj4 Jk4 Om4 Um4 Xm4 Jn4 Kn4 Mn4 On4 Kk4 Mk4 Ok4 Uk4 Xk4 Jm4 Km4 Mm4 Ma2 Oa2 Jc2 Kc2 Mc2 Oc2 Uc2 Xc2 Jd2 Ua2 Xa2 Jb2 Kb2 Mb2 Ob2 Ub2 Xb2);(try clear Xn4 Jo4 Op4 Up4 Xp4 Jq4 Kq4 Mq4 Oq4 Ko4 Mo4 Oo4 Uo4 Xo4 Jp4 Kp4 Mp4 Md2 Od2 Jf2 Kf2 Mf2 Of2 Uf2 Xf2 Jg2 Ud2 Xd2 Je2 Ke2 Me2 Oe2 Ue2 Xe2);(try clear Uq4 Xq4 Ms4 Os4 Us4 Xs4 Ju4 Ku4 Mu4 Jr4 Kr4 Mr4 Or4 Ur4 Xr4 Js4 Ks4 Kg2 Mg2 Xh2 Ji2 Ki2 Mi2 Oi2 Ui2 Xi2 Og2 Ug2 Xg2 Jh2 Kh2 Mh2 Oh2 Uh2);(try clear Ou4 Uu4 Kx4 Mx4 Ox4 Ux4 Xx4 Jy4 Ky4 Xu4 Jv4 Kv4 Mv4 Ov4 Uv4 Xv4 Jx4 Jj2 Kj2 Uk2 Xk2 Jm2 Km2 Mm2 Om2 Um2 Mj2 Oj2 Uj2 Xj2 Jk2 Kk2 Mk2 Ok2);(try clear My4 Oy4 Ja5 Ka5 Ma5 Oa5 Ua5 Xa5 Jb5 Uy4 Xy4 Jz4 Kz4 Mz4 Oz4 Uz4 Xz4 Xm2 Jn2 Oo2 Uo2 Xo2 Jp2 Kp2 Mp2 Op2 Kn2 Mn2 On2 Un2 Xn2 Jo2 Ko2 Mo2);(try clear Kb5 Mb5 Xc5 Jd5 Kd5 Md5 Od5 Ud5 Xd5 Ob5 Ub5 Xb5 Jc5 Kc5 Mc5 Oc5 Uc5 Up2 Xp2 Mr2 Or2 Ur2 Xr2 Js2 Ks2 Ms2 Jq2 Kq2 Mq2 Oq2 Uq2 Xq2 Jr2 Kr2);(try clear Je5 Ke5 Me5 Oe5 Ue5 Xe5 Jf5 Kf5 Mf5 Os2 Us2 Xs2 Ju2 Ku2 Mu2 Ou2 Uu2 Xu2 Jv2 Ox2 Ux2 Xx2 Jy2 Ky2 My2 Oy2 Kv2 Mv2 Ov2 Uv2 Xv2 Jx2 Kx2 Mx2);(try clear Uy2 Xy2 Ma3 Oa3 Ua3 Xa3 Jb3 Kb3 Mb3 Jz2 Kz2 Mz2 Oz2 Uz2 Xz2 Ja3 Ka3 Ob3 Ub3 Kd3 Md3 Od3 Ud3 Xd3 Je3 Ke3 Xb3 Jc3 Kc3 Mc3 Oc3 Uc3 Xc3 Jd3)
         obtain ⟨kq, Oa, rfl,rfl,HA, HJ16, Ja, HB⟩ := hcut
         cases kq with
         | zero => exact absurd HA.out (by simp [spec_ModuleOk.j3])
         | succ kj16 =>
          have H := HA.out; clear HA; simp only [spec_ModuleOk.j3] at H
          by_cases c54 : Oa = true
          ·subst c54
           rw [if_pos rfl] at H; obtain rfl := Option.some.inj H
           go_wp2_with (first|((with_reducible refine gld_ 34 rfl ?_);(first|refine la34o1_ ?_|refine la34o7_ ?_))|((with_reducible refine gld_ 3 rfl ?_);refine lc3_ ?_)|((with_reducible refine gst_ 36 rfl ?_);refine sa36_ ?_)|((with_reducible refine gld_ 36 rfl ?_);refine la36_ ?_))
           go_ret; exact ⟨er_, pB_ HB.out⟩
          ·replace c54 := Bool.eq_false_iff.mpr c54
           subst c54; rw [if_neg (show ¬ (false = true) by decide)] at H
           by_cases c55 : a0_0 = 1
           ·rw [if_pos c55] at H
            have c55b0:(a0_0 == 1)=true:=beq_iff_eq.mpr c55;have c55b1:(a0_0 != 1)=false:=bne_eq_false_iff_eq.mpr c55;clear c55;obtain ⟨Of5,A560,H⟩:=bs_.mp H;(try dsimp only at H);have A56:=D A560;clear A560
            by_cases c57 : Of5 = true
            ·subst c57
             rw [if_pos rfl] at H; obtain ⟨Uf5, A580, H⟩ := bs_.mp H; (try dsimp only at H); have A58 := D A580; clear A580
             by_cases c59 : Uf5 = true
             ·subst c59
              rw [if_pos rfl] at H
              by_cases c60 : a0_13 ≥ (-1)
              ·rw [if_pos c60] at H
               have c60b0 : decide ((-1) ≤ a0_13) = true := decide_eq_true c60; clear c60
               by_cases c61 : a0_13 ≤ 255
               ·rw [if_pos c61] at H
                have c61b0:decide (a0_13≤255)=true:=decide_eq_true c61;clear c61;obtain ⟨Xf5,A620,H⟩:=bs_.mp H;(try dsimp only at H);have A62:=D A620;clear A620;obtain rfl:=Option.some.inj H;obtain ⟨Jg5,Kg5,Mg5,Og5,Ug5,Xg5,Jh5,Kh5,Mh5,Oh5,Uh5,Xh5,Ji5,Ki5,Mi5,Oi5,Ui5,Xi5,Jj5,Kj5,Mj5,Oj5,Uj5,Xj5,Jk5,Kk5,Mk5,Ok5,Uk5,Xk5,Jm5,Km5,Mm5,Om5⟩:=cells17 Ja.out
                go_wp2_with (first|((with_reducible refine gld_ 34 rfl ?_);(first|refine la34o1_ ?_|refine la34o7_ ?_))|((with_reducible refine gld_ 3 rfl ?_);refine lc3_ ?_)|((with_reducible refine gst_ 36 rfl ?_);refine sa36_ ?_)|((with_reducible refine gld_ 36 rfl ?_);refine la36_ ?_)|((with_reducible refine gate_callee (f:=45) rfl ?_);refine goesL_ (some 85) rfl rfl Try.func45 (by kernel_rfl) rfl #[.agg #[I L a0_1,I L a0_2,I L a0_3,I L a0_4,I L a0_5,I L a0_6]] rfl Z15 ?_;(with_reducible refine (spec_PrefixOk.calls kj16 a0_1 a0_2 a0_3 a0_4 a0_5 a0_6 true _ A56.out).mono ?_);rintro e w64 ⟨rfl,hb⟩;refine ⟨_,rfl,?_⟩;have n_:=an_ (blk_below (pk_ Ja.out) hb)<|D (below_step (pB_ HB.out) hb);clear Ja HB;obtain ⟨Ja,HB⟩:=n_;(try clear hb);obtain ⟨Um5,Xm5,Jn5,Kn5,Mn5,On5,Un5,Xn5,Jo5,Ko5,Mo5,Oo5,Uo5,Xo5,Jp5,Kp5,Mp5,Op5,Up5,Xp5,Jq5,Kq5,Mq5,Oq5,Uq5,Xq5,Jr5,Kr5,Mr5,Or5,Ur5,Xr5,Js5,Ks5⟩:=cells17 Ja.out)|(go_at_call 45;(with_reducible refine (spec_PrefixOk.calls kj16 a0_7 a0_8 a0_9 a0_10 a0_11 a0_12 true _ A58.out).mono ?_);rintro e w66 ⟨rfl,hb⟩;have n_:=an_ (blk_below (pk_ Ja.out) hb)<|D (below_step (pB_ HB.out) hb);clear Ja HB;obtain ⟨Ja,HB⟩:=n_;(try clear hb);obtain ⟨Ms5,Os5,Us5,Xs5,Ju5,Ku5,Mu5,Ou5,Uu5,Xu5,Jv5,Kv5,Mv5,Ov5,Uv5,Xv5,Jx5,Kx5,Mx5,Ox5,Ux5,Xx5,Jy5,Ky5,My5,Oy5,Uy5,Xy5,Jz5,Kz5,Mz5,Oz5,Uz5,Xz5⟩:=cells17 Ja.out)|(go_at_call 46;(with_reducible refine (spec_l09Range.calls a0_14 a0_15 Xf5 _ A62.out).mono ?_);rintro e w' ⟨rfl,⟨nd,rfl⟩⟩))
                go_ret; exact ⟨er_, pB_ HB.out⟩
               ·rw [if_neg c61] at H
                have c61b0:decide (a0_13≤255)=false:=decide_eq_false c61;clear c61;obtain rfl:=Option.some.inj H;obtain ⟨Ja6,Ka6,Ma6,Oa6,Ua6,Xa6,Jb6,Kb6,Mb6,Ob6,Ub6,Xb6,Jc6,Kc6,Mc6,Oc6,Uc6,Xc6,Jd6,Kd6,Md6,Od6,Ud6,Xd6,Je6,Ke6,Me6,Oe6,Ue6,Xe6,Jf6,Kf6,Mf6,Of6⟩:=cells17 Ja.out
                go_wp2_with (first|((with_reducible refine gld_ 34 rfl ?_);(first|refine la34o1_ ?_|refine la34o7_ ?_))|((with_reducible refine gld_ 3 rfl ?_);refine lc3_ ?_)|((with_reducible refine gst_ 36 rfl ?_);refine sa36_ ?_)|((with_reducible refine gld_ 36 rfl ?_);refine la36_ ?_)|((with_reducible refine gate_callee (f:=45) rfl ?_);refine goesL_ (some 85) rfl rfl Try.func45 (by kernel_rfl) rfl #[.agg #[I L a0_1,I L a0_2,I L a0_3,I L a0_4,I L a0_5,I L a0_6]] rfl Z15 ?_;(with_reducible refine (spec_PrefixOk.calls kj16 a0_1 a0_2 a0_3 a0_4 a0_5 a0_6 true _ A56.out).mono ?_);rintro e w69 ⟨rfl,hb⟩;refine ⟨_,rfl,?_⟩;have n_:=an_ (blk_below (pk_ Ja.out) hb)<|D (below_step (pB_ HB.out) hb);clear Ja HB;obtain ⟨Ja,HB⟩:=n_;(try clear hb);obtain ⟨Uf6,Xf6,Jg6,Kg6,Mg6,Og6,Ug6,Xg6,Jh6,Kh6,Mh6,Oh6,Uh6,Xh6,Ji6,Ki6,Mi6,Oi6,Ui6,Xi6,Jj6,Kj6,Mj6,Oj6,Uj6,Xj6,Jk6,Kk6,Mk6,Ok6,Uk6,Xk6,Jm6,Km6⟩:=cells17 Ja.out)|(go_at_call 45;(with_reducible refine (spec_PrefixOk.calls kj16 a0_7 a0_8 a0_9 a0_10 a0_11 a0_12 true _ A58.out).mono ?_);rintro e w71 ⟨rfl,hb⟩;have n_:=an_ (blk_below (pk_ Ja.out) hb)<|D (below_step (pB_ HB.out) hb);clear Ja HB;obtain ⟨Ja,HB⟩:=n_;(try clear hb);obtain ⟨Mm6,Om6,Um6,Xm6,Jn6,Kn6,Mn6,On6,Un6,Xn6,Jo6,Ko6,Mo6,Oo6,Uo6,Xo6,Jp6,Kp6,Mp6,Op6,Up6,Xp6,Jq6,Kq6,Mq6,Oq6,Uq6,Xq6,Jr6,Kr6,Mr6,Or6,Ur6,Xr6⟩:=cells17 Ja.out))
                go_ret; exact ⟨er_, pB_ HB.out⟩
              ·rw [if_neg c60] at H
               have c60b0:decide ((-1)≤a0_13)=false:=decide_eq_false c60;clear c60;obtain rfl:=Option.some.inj H;obtain ⟨Js6,Ks6,Ms6,Os6,Us6,Xs6,Ju6,Ku6,Mu6,Ou6,Uu6,Xu6,Jv6,Kv6,Mv6,Ov6,Uv6,Xv6,Jx6,Kx6,Mx6,Ox6,Ux6,Xx6,Jy6,Ky6,My6,Oy6,Uy6,Xy6,Jz6,Kz6,Mz6,Oz6⟩:=cells17 Ja.out
               go_wp2_with (first|((with_reducible refine gld_ 34 rfl ?_);(first|refine la34o1_ ?_|refine la34o7_ ?_))|((with_reducible refine gld_ 3 rfl ?_);refine lc3_ ?_)|((with_reducible refine gst_ 36 rfl ?_);refine sa36_ ?_)|((with_reducible refine gld_ 36 rfl ?_);refine la36_ ?_)|((with_reducible refine gate_callee (f:=45) rfl ?_);refine goesL_ (some 85) rfl rfl Try.func45 (by kernel_rfl) rfl #[.agg #[I L a0_1,I L a0_2,I L a0_3,I L a0_4,I L a0_5,I L a0_6]] rfl Z15 ?_;(with_reducible refine (spec_PrefixOk.calls kj16 a0_1 a0_2 a0_3 a0_4 a0_5 a0_6 true _ A56.out).mono ?_);rintro e w74 ⟨rfl,hb⟩;refine ⟨_,rfl,?_⟩;have n_:=an_ (blk_below (pk_ Ja.out) hb)<|D (below_step (pB_ HB.out) hb);clear Ja HB;obtain ⟨Ja,HB⟩:=n_;(try clear hb);obtain ⟨Uz6,Xz6,Ja7,Ka7,Ma7,Oa7,Ua7,Xa7,Jb7,Kb7,Mb7,Ob7,Ub7,Xb7,Jc7,Kc7,Mc7,Oc7,Uc7,Xc7,Jd7,Kd7,Md7,Od7,Ud7,Xd7,Je7,Ke7,Me7,Oe7,Ue7,Xe7,Jf7,Kf7⟩:=cells17 Ja.out)|(go_at_call 45;(with_reducible refine (spec_PrefixOk.calls kj16 a0_7 a0_8 a0_9 a0_10 a0_11 a0_12 true _ A58.out).mono ?_);rintro e w76 ⟨rfl,hb⟩;have n_:=an_ (blk_below (pk_ Ja.out) hb)<|D (below_step (pB_ HB.out) hb);clear Ja HB;obtain ⟨Ja,HB⟩:=n_;(try clear hb);obtain ⟨Mf7,Of7,Uf7,Xf7,Jg7,Kg7,Mg7,Og7,Ug7,Xg7,Jh7,Kh7,Mh7,Oh7,Uh7,Xh7,Ji7,Ki7,Mi7,Oi7,Ui7,Xi7,Jj7,Kj7,Mj7,Oj7,Uj7,Xj7,Jk7,Kk7,Mk7,Ok7,Uk7,Xk7⟩:=cells17 Ja.out))
               go_ret; exact ⟨er_, pB_ HB.out⟩
             ·replace c59 := Bool.eq_false_iff.mpr c59
              subst c59;rw [if_neg (show ¬ (false=true) by decide)] at H;obtain rfl:=Option.some.inj H;obtain ⟨Jm7,Km7,Mm7,Om7,Um7,Xm7,Jn7,Kn7,Mn7,On7,Un7,Xn7,Jo7,Ko7,Mo7,Oo7,Uo7,Xo7,Jp7,Kp7,Mp7,Op7,Up7,Xp7,Jq7,Kq7,Mq7,Oq7,Uq7,Xq7,Jr7,Kr7,Mr7,Or7⟩:=cells17 Ja.out
              go_wp2_with (first|((with_reducible refine gld_ 34 rfl ?_);(first|refine la34o1_ ?_|refine la34o7_ ?_))|((with_reducible refine gld_ 3 rfl ?_);refine lc3_ ?_)|((with_reducible refine gst_ 36 rfl ?_);refine sa36_ ?_)|((with_reducible refine gld_ 36 rfl ?_);refine la36_ ?_)|((with_reducible refine gate_callee (f:=45) rfl ?_);refine goesL_ (some 85) rfl rfl Try.func45 (by kernel_rfl) rfl #[.agg #[I L a0_1,I L a0_2,I L a0_3,I L a0_4,I L a0_5,I L a0_6]] rfl Z15 ?_;(with_reducible refine (spec_PrefixOk.calls kj16 a0_1 a0_2 a0_3 a0_4 a0_5 a0_6 true _ A56.out).mono ?_);rintro e w79 ⟨rfl,hb⟩;refine ⟨_,rfl,?_⟩;have n_:=an_ (blk_below (pk_ Ja.out) hb)<|D (below_step (pB_ HB.out) hb);clear Ja HB;obtain ⟨Ja,HB⟩:=n_;(try clear hb);obtain ⟨Ur7,Xr7,Js7,Ks7,Ms7,Os7,Us7,Xs7,Ju7,Ku7,Mu7,Ou7,Uu7,Xu7,Jv7,Kv7,Mv7,Ov7,Uv7,Xv7,Jx7,Kx7,Mx7,Ox7,Ux7,Xx7,Jy7,Ky7,My7,Oy7,Uy7,Xy7,Jz7,Kz7⟩:=cells17 Ja.out)|(go_at_call 45;(with_reducible refine (spec_PrefixOk.calls kj16 a0_7 a0_8 a0_9 a0_10 a0_11 a0_12 false _ A58.out).mono ?_);rintro e w81 ⟨rfl,hb⟩;have n_:=an_ (blk_below (pk_ Ja.out) hb)<|D (below_step (pB_ HB.out) hb);clear Ja HB;obtain ⟨Ja,HB⟩:=n_;(try clear hb)))
              go_ret; exact ⟨er_, pB_ HB.out⟩
            ·replace c57 := Bool.eq_false_iff.mpr c57
             subst c57;rw [if_neg (show ¬ (false=true) by decide)] at H;obtain rfl:=Option.some.inj H;obtain ⟨Mz7,Oz7,Uz7,Xz7,Ja8,Ka8,Ma8,Oa8,Ua8,Xa8,Jb8,Kb8,Mb8,Ob8,Ub8,Xb8,Jc8,Kc8,Mc8,Oc8,Uc8,Xc8,Jd8,Kd8,Md8,Od8,Ud8,Xd8,Je8,Ke8,Me8,Oe8,Ue8,Xe8⟩:=cells17 Ja.out
             go_wp2_with (first|((with_reducible refine gld_ 34 rfl ?_);(first|refine la34o1_ ?_|refine la34o7_ ?_))|((with_reducible refine gld_ 3 rfl ?_);refine lc3_ ?_)|((with_reducible refine gst_ 36 rfl ?_);refine sa36_ ?_)|((with_reducible refine gld_ 36 rfl ?_);refine la36_ ?_)|((with_reducible refine gate_callee (f:=45) rfl ?_);refine goesL_ (some 85) rfl rfl Try.func45 (by kernel_rfl) rfl #[.agg #[I L a0_1,I L a0_2,I L a0_3,I L a0_4,I L a0_5,I L a0_6]] rfl Z15 ?_;(with_reducible refine (spec_PrefixOk.calls kj16 a0_1 a0_2 a0_3 a0_4 a0_5 a0_6 false _ A56.out).mono ?_);rintro e w83 ⟨rfl,hb⟩;refine ⟨_,rfl,?_⟩;have n_:=an_ (blk_below (pk_ Ja.out) hb)<|D (below_step (pB_ HB.out) hb);clear Ja HB;obtain ⟨Ja,HB⟩:=n_;(try clear hb)))
             go_ret; exact ⟨er_, pB_ HB.out⟩
           ·rw [if_neg c55] at H
            have c55b0:(a0_0 == 1)=false:=beq_eq_false_iff_ne.mpr c55;have c55b1:(a0_0 != 1)=true:=bne_iff_ne.mpr c55;have HC84:=D H;clear H;obtain ⟨Jf8,Kf8,Mf8,Of8,Uf8,Xf8,Jg8,Kg8,Mg8,Og8,Ug8,Xg8,Jh8,Kh8,Mh8,Oh8,Uh8,Xh8,Ji8,Ki8,Mi8,Oi8,Ui8,Xi8,Jj8,Kj8,Mj8,Oj8,Uj8,Xj8,Jk8,Kk8,Mk8,Ok8⟩:=cells17 Ja.out
            go_upto_if 108 with (first|((with_reducible refine gld_ 34 rfl ?_);(first|refine la34o1_ ?_|refine la34o7_ ?_))|((with_reducible refine gld_ 3 rfl ?_);refine lc3_ ?_)|((with_reducible refine gst_ 36 rfl ?_);refine sa36_ ?_)|((with_reducible refine gld_ 36 rfl ?_);refine la36_ ?_))
            go_cut [108] (fun Uk8 wc=>∃ (kq:Nat) (Ua:Bool),Uk8=.bool Ua∧Aside0 (spec_ModuleOk.j4 kq a0_0 Ua a0_0 a0_1 a0_2 a0_3 a0_4 a0_5 a0_6 a0_7 a0_8 a0_9 a0_10 a0_11 a0_12 a0_13 a0_14 a0_15 a0_16=some r)∧Aside0 (kq≤kj16)∧Aside0 (wc.heap[Ka]?=some (.cells #[I L a0_0,I L a0_1,I L a0_2,I L a0_3,I L a0_4,I L a0_5,I L a0_6,I L a0_7,I L a0_8,I L a0_9,I L a0_10,I L a0_11,I L a0_12,I L a0_13,I L a0_14,I L a0_15,I L a0_16] 36 (0,0)))∧Aside0 (Below w.heap.size w wc))
            case first =>
             have H := HC84.out; clear HC84
             by_cases c86 : a0_0 = 2
             ·rw [if_pos c86] at H
              have c86b0:(a0_0 == 2)=true:=beq_iff_eq.mpr c86;have c86b1:(a0_0 != 2)=false:=bne_eq_false_iff_eq.mpr c86;clear c86;refine rw_ c86b0 ?_;have H':=D H;clear H
              go_wp2_with (first|((with_reducible refine gld_ 34 rfl ?_);(first|refine la34o1_ ?_|refine la34o7_ ?_))|((with_reducible refine gld_ 3 rfl ?_);refine lc3_ ?_)|((with_reducible refine gst_ 36 rfl ?_);refine sa36_ ?_)|((with_reducible refine gld_ 36 rfl ?_);refine la36_ ?_))
              go_meet
              case rel => exact ⟨_, ((a0_0 == 2)), Z22, H', ⟨by have := HJ1.out; have := HJ7.out; have := HJ11.out; have := HJ16.out; first | omega | exact Nat.le_refl _⟩, ⟨pk_ Ja.out⟩, ⟨pB_ HB.out⟩⟩
             ·rw [if_neg c86] at H
              have c86b0:(a0_0 == 2)=false:=beq_eq_false_iff_ne.mpr c86;have c86b1:(a0_0 != 2)=true:=bne_iff_ne.mpr c86;refine rw_ c86b0 ?_;have H':=D H;clear H
              go_wp2_with (first|((with_reducible refine gld_ 34 rfl ?_);(first|refine la34o1_ ?_|refine la34o7_ ?_))|((with_reducible refine gld_ 3 rfl ?_);refine lc3_ ?_)|((with_reducible refine gst_ 36 rfl ?_);refine sa36_ ?_)|((with_reducible refine gld_ 36 rfl ?_);refine la36_ ?_))
              go_meet
              case rel => exact ⟨_, ((a0_0 == 3)), Z22, H', ⟨by have := HJ1.out; have := HJ7.out; have := HJ11.out; have := HJ16.out; first | omega | exact Nat.le_refl _⟩, ⟨pk_ Ja.out⟩, ⟨pB_ HB.out⟩⟩
            case rest =>
             clear HC84
             (try clear p2);(try clear c4);(try clear c5);(try clear c6);(try clear c8);(try clear c45);(try clear c54);(try clear c55);(try clear c55b0);(try clear c55b1);(try clear c57);(try clear c59);(try clear c60);(try clear c60b0);(try clear c61);(try clear c61b0);(try clear c86);(try clear c86b0);(try clear c86b1);(try clear Os2 Us2 Xs2 Ju2 Ku2 Mu2 Ou2 Uu2 Xu2 Jv2 Ox2 Ux2 Xx2 Jy2 Ky2 My2 Oy2 Kv2 Mv2 Ov2 Uv2 Xv2 Jx2 Kx2 Mx2);(try clear Uy2 Xy2 Ma3 Oa3 Ua3 Xa3 Jb3 Kb3 Mb3 Jz2 Kz2 Mz2 Oz2 Uz2 Xz2 Ja3 Ka3 Ob3 Ub3 Kd3 Md3 Od3 Ud3 Xd3 Je3 Ke3 Xb3 Jc3 Kc3 Mc3 Oc3 Uc3 Xc3 Jd3);(try clear Jg5 Kg5 Uh5 Xh5 Ji5 Ki5 Mi5 Oi5 Ui5 Mg5 Og5 Ug5 Xg5 Jh5 Kh5 Mh5 Oh5 Xi5 Jj5 Ok5 Uk5 Xk5 Jm5 Km5 Mm5 Om5 Kj5 Mj5 Oj5 Uj5 Xj5 Jk5 Kk5 Mk5);(try clear Um5 Xm5 Mo5 Oo5 Uo5 Xo5 Jp5 Kp5 Mp5 Jn5 Kn5 Mn5 On5 Un5 Xn5 Jo5 Ko5 Op5 Up5 Kr5 Mr5 Or5 Ur5 Xr5 Js5 Ks5 Xp5 Jq5 Kq5 Mq5 Oq5 Uq5 Xq5 Jr5);(try clear Ms5 Os5 Jv5 Kv5 Mv5 Ov5 Uv5 Xv5 Jx5 Us5 Xs5 Ju5 Ku5 Mu5 Ou5 Uu5 Xu5 Kx5 Mx5 Xy5 Jz5 Kz5 Mz5 Oz5 Uz5 Xz5 Ox5 Ux5 Xx5 Jy5 Ky5 My5 Oy5 Uy5);(try clear Ja6 Ka6 Ub6 Xb6 Jc6 Kc6 Mc6 Oc6 Uc6 Ma6 Oa6 Ua6 Xa6 Jb6 Kb6 Mb6 Ob6 Xc6 Jd6 Oe6 Ue6 Xe6 Jf6 Kf6 Mf6 Of6 Kd6 Md6 Od6 Ud6 Xd6 Je6 Ke6 Me6);(try clear Uf6 Xf6 Mh6 Oh6 Uh6 Xh6 Ji6 Ki6 Mi6 Jg6 Kg6 Mg6 Og6 Ug6 Xg6 Jh6 Kh6 Oi6 Ui6 Kk6 Mk6 Ok6 Uk6 Xk6 Jm6 Km6 Xi6 Jj6 Kj6 Mj6 Oj6 Uj6 Xj6 Jk6);(try clear Mm6 Om6 Jo6 Ko6 Mo6 Oo6 Uo6 Xo6 Jp6 Um6 Xm6 Jn6 Kn6 Mn6 On6 Un6 Xn6 Kp6 Mp6 Xq6 Jr6 Kr6 Mr6 Or6 Ur6 Xr6 Op6 Up6 Xp6 Jq6 Kq6 Mq6 Oq6 Uq6);(try clear Js6 Ks6 Uu6 Xu6 Jv6 Kv6 Mv6 Ov6 Uv6 Ms6 Os6 Us6 Xs6 Ju6 Ku6 Mu6 Ou6 Xv6 Jx6 Oy6 Uy6 Xy6 Jz6 Kz6 Mz6 Oz6 Kx6 Mx6 Ox6 Ux6 Xx6 Jy6 Ky6 My6);(try clear Uz6 Xz6 Mb7 Ob7 Ub7 Xb7 Jc7 Kc7 Mc7 Ja7 Ka7 Ma7 Oa7 Ua7 Xa7 Jb7 Kb7 Oc7 Uc7 Ke7 Me7 Oe7 Ue7 Xe7 Jf7 Kf7 Xc7 Jd7 Kd7 Md7 Od7 Ud7 Xd7 Je7);(try clear Mf7 Of7 Jh7 Kh7 Mh7 Oh7 Uh7 Xh7 Ji7 Uf7 Xf7 Jg7 Kg7 Mg7 Og7 Ug7 Xg7 Ki7 Mi7 Xj7 Jk7 Kk7 Mk7 Ok7 Uk7 Xk7 Oi7 Ui7 Xi7 Jj7 Kj7 Mj7 Oj7 Uj7);(try clear Jm7 Km7 Un7 Xn7 Jo7 Ko7 Mo7 Oo7 Uo7 Mm7 Om7 Um7 Xm7 Jn7 Kn7 Mn7 On7 Xo7 Jp7 Oq7 Uq7 Xq7 Jr7 Kr7 Mr7 Or7 Kp7 Mp7 Op7 Up7 Xp7 Jq7 Kq7 Mq7);(try clear Ur7 Xr7 Mu7 Ou7 Uu7 Xu7 Jv7 Kv7 Mv7 Js7 Ks7 Ms7 Os7 Us7 Xs7 Ju7 Ku7 Ov7 Uv7 Ky7 My7 Oy7 Uy7 Xy7 Jz7 Kz7 Xv7 Jx7 Kx7 Mx7 Ox7 Ux7 Xx7 Jy7);(try clear Mz7 Oz7 Jb8 Kb8 Mb8 Ob8 Ub8 Xb8 Jc8 Uz7 Xz7 Ja8 Ka8 Ma8 Oa8 Ua8 Xa8 Kc8 Mc8 Xd8 Je8 Ke8 Me8 Oe8 Ue8 Xe8 Oc8 Uc8 Xc8 Jd8 Kd8 Md8 Od8 Ud8);(try clear Jf8 Kf8 Ug8 Xg8 Jh8 Kh8 Mh8 Oh8 Uh8 Mf8 Of8 Uf8 Xf8 Jg8 Kg8 Mg8 Og8 Xh8 Ji8 Oj8 Uj8 Xj8 Jk8 Kk8 Mk8 Ok8 Ki8 Mi8 Oi8 Ui8 Xi8 Jj8 Kj8 Mj8);(try clear Kg1 Mg1 Xh1 Ji1 Ki1 Mi1 Oi1 Ui1 Xi1 Og1 Ug1 Xg1 Jh1 Kh1 Mh1 Oh1 Uh1);(try clear Jj1 Kj1 Uk1 Xk1 Jm1 Km1 Mm1 Om1 Um1 Mj1 Oj1 Uj1 Xj1 Jk1 Kk1 Mk1 Ok1);(try clear Xm1 Jn1 Oo1 Uo1 Xo1 Jp1 Kp1 Mp1 Op1 Kn1 Mn1 On1 Un1 Xn1 Jo1 Ko1 Mo1);(try clear Xp1 Jq1 Or1 Ur1 Xr1 Js1 Ks1 Ms1 Os1 Kq1 Mq1 Oq1 Uq1 Xq1 Jr1 Kr1 Mr1);(try clear Us1 Xs1 Mv1 Ov1 Uv1 Xv1 Jx1 Kx1 Mx1 Ju1 Ku1 Mu1 Ou1 Uu1 Xu1 Jv1 Kv1);(try clear Ox1 Ux1 Kz1 Mz1 Oz1 Uz1 Xz1 Ja2 Ka2 Xx1 Jy1 Ky1 My1 Oy1 Uy1 Xy1 Jz1);(try clear Ma2 Oa2 Jc2 Kc2 Mc2 Oc2 Uc2 Xc2 Jd2 Ua2 Xa2 Jb2 Kb2 Mb2 Ob2 Ub2 Xb2);(try clear Md2 Od2 Jf2 Kf2 Mf2 Of2 Uf2 Xf2 Jg2 Ud2 Xd2 Je2 Ke2 Me2 Oe2 Ue2 Xe2);(try clear Kg2 Mg2 Xh2 Ji2 Ki2 Mi2 Oi2 Ui2 Xi2 Og2 Ug2 Xg2 Jh2 Kh2 Mh2 Oh2 Uh2);(try clear Jj2 Kj2 Uk2 Xk2 Jm2 Km2 Mm2 Om2 Um2 Mj2 Oj2 Uj2 Xj2 Jk2 Kk2 Mk2 Ok2);(try clear Xm2 Jn2 Oo2 Uo2 Xo2 Jp2 Kp2 Mp2 Op2 Kn2 Mn2 On2 Un2 Xn2 Jo2 Ko2 Mo2);(try clear Up2 Xp2 Mr2 Or2 Ur2 Xr2 Js2 Ks2 Ms2 Jq2 Kq2 Mq2 Oq2 Uq2 Xq2 Jr2 Kr2)
             obtain ⟨kq, Ua, rfl, HA, HJ83, Ja, HB⟩ := hcut
             cases kq with
             | zero => exact absurd HA.out (by simp [spec_ModuleOk.j4])
             | succ kj83 =>
              have H := HA.out; clear HA; simp only [spec_ModuleOk.j4] at H
              by_cases c87 : Ua = true
              ·subst c87
               rw [if_pos rfl] at H;obtain ⟨Xk8,A880,H⟩:=bs_.mp H;(try dsimp only at H);have A88:=D A880;clear A880;obtain rfl:=Option.some.inj H;obtain ⟨Om8,Um8,Xm8,Jn8,Kn8,Mn8,On8,Un8,Xn8,Jo8,Ko8,Mo8,Oo8,Uo8,Xo8,Jp8,Kp8,Mp8,Op8,Up8,Xp8,Jq8,Kq8,Mq8,Oq8,Uq8,Xq8,Jr8,Kr8,Mr8,Or8,Ur8,Xr8,Js8⟩:=cells17 Ja.out
               go_wp2_with (first|((with_reducible refine gld_ 34 rfl ?_);(first|refine la34o1_ ?_|refine la34o7_ ?_))|((with_reducible refine gld_ 3 rfl ?_);refine lc3_ ?_)|((with_reducible refine gst_ 36 rfl ?_);refine sa36_ ?_)|((with_reducible refine gld_ 36 rfl ?_);refine la36_ ?_)|((with_reducible refine gate_callee (f:=47) rfl ?_);refine goesL_ (some 115) rfl rfl Try.func47 (by kernel_rfl) rfl #[.agg #[I L a0_1,I L a0_2,I L a0_3,I L a0_4,I L a0_5,I L a0_6],.agg #[I L a0_7,I L a0_8,I L a0_9,I L a0_10,I L a0_11,I L a0_12]] rfl Z15 ?_;(with_reducible refine (spec_l10Twins.calls kj83 a0_1 a0_2 a0_3 a0_4 a0_5 a0_6 a0_7 a0_8 a0_9 a0_10 a0_11 a0_12 Xk8 _ A88.out).mono ?_);rintro e w90 ⟨rfl,hb⟩;refine ⟨_,rfl,?_⟩;have n_:=an_ (blk_below (pk_ Ja.out) hb)<|D (below_step (pB_ HB.out) hb);clear Ja HB;obtain ⟨Ja,HB⟩:=n_;(try clear hb)))
               go_ret; exact ⟨er_, pB_ HB.out⟩
              ·replace c87 := Bool.eq_false_iff.mpr c87
               subst c87; rw [if_neg (show ¬ (false = true) by decide)] at H
               by_cases c91 : a0_0 = 5
               ·rw [if_pos c91] at H
                have c91b0:(a0_0 == 5)=true:=beq_iff_eq.mpr c91;have c91b1:(a0_0 != 5)=false:=bne_eq_false_iff_eq.mpr c91;clear c91;obtain ⟨Jm8,A920,H⟩:=bs_.mp H;(try dsimp only at H);have A92:=D A920;clear A920;obtain rfl:=Option.some.inj H;obtain ⟨Ks8,Ms8,Os8,Us8,Xs8,Ju8,Ku8,Mu8,Ou8,Uu8,Xu8,Jv8,Kv8,Mv8,Ov8,Uv8,Xv8,Jx8,Kx8,Mx8,Ox8,Ux8,Xx8,Jy8,Ky8,My8,Oy8,Uy8,Xy8,Jz8,Kz8,Mz8,Oz8,Uz8⟩:=cells17 Ja.out
                go_wp2_with (first|((with_reducible refine gld_ 34 rfl ?_);(first|refine la34o1_ ?_|refine la34o7_ ?_))|((with_reducible refine gld_ 3 rfl ?_);refine lc3_ ?_)|((with_reducible refine gst_ 36 rfl ?_);refine sa36_ ?_)|((with_reducible refine gld_ 36 rfl ?_);refine la36_ ?_)|((with_reducible refine gate_callee (f:=48) rfl ?_);refine goesL_ (some 120) rfl rfl Try.func48 (by kernel_rfl) rfl #[I L a0_16,I L 63] rfl Z15 ?_;(with_reducible refine (spec_l05In.calls a0_16 63 Jm8 _ A92.out).mono ?_);rintro e w' ⟨rfl,⟨nd,rfl⟩⟩;refine ⟨_,rfl,?_⟩))
                go_ret; exact ⟨er_, pB_ HB.out⟩
               ·rw [if_neg c91] at H
                have c91b0 : (a0_0 == 5) = false := beq_eq_false_iff_ne.mpr c91; have c91b1 : (a0_0 != 5) = true := bne_iff_ne.mpr c91
                by_cases c94 : a0_0 = 7
                ·rw [if_pos c94] at H
                 have c94b0 : (a0_0 == 7) = true := beq_iff_eq.mpr c94; have c94b1 : (a0_0 != 7) = false := bne_eq_false_iff_eq.mpr c94; clear c94
                 by_cases c95 : a0_16 ≥ 1
                 ·rw [if_pos c95] at H
                  have c95b0:decide (1≤a0_16)=true:=decide_eq_true c95;clear c95;obtain rfl:=Option.some.inj H;obtain ⟨Xz8,Ja9,Ka9,Ma9,Oa9,Ua9,Xa9,Jb9,Kb9,Mb9,Ob9,Ub9,Xb9,Jc9,Kc9,Mc9,Oc9,Uc9,Xc9,Jd9,Kd9,Md9,Od9,Ud9,Xd9,Je9,Ke9,Me9,Oe9,Ue9,Xe9,Jf9,Kf9,Mf9⟩:=cells17 Ja.out
                  go_wp2_with (first|((with_reducible refine gld_ 34 rfl ?_);(first|refine la34o1_ ?_|refine la34o7_ ?_))|((with_reducible refine gld_ 3 rfl ?_);refine lc3_ ?_)|((with_reducible refine gst_ 36 rfl ?_);refine sa36_ ?_)|((with_reducible refine gld_ 36 rfl ?_);refine la36_ ?_))
                  go_ret; exact ⟨er_, pB_ HB.out⟩
                 ·rw [if_neg c95] at H
                  have c95b0:decide (1≤a0_16)=false:=decide_eq_false c95;clear c95;obtain rfl:=Option.some.inj H;obtain ⟨Of9,Uf9,Xf9,Jg9,Kg9,Mg9,Og9,Ug9,Xg9,Jh9,Kh9,Mh9,Oh9,Uh9,Xh9,Ji9,Ki9,Mi9,Oi9,Ui9,Xi9,Jj9,Kj9,Mj9,Oj9,Uj9,Xj9,Jk9,Kk9,Mk9,Ok9,Uk9,Xk9,Jm9⟩:=cells17 Ja.out
                  go_wp2_with (first|((with_reducible refine gld_ 34 rfl ?_);(first|refine la34o1_ ?_|refine la34o7_ ?_))|((with_reducible refine gld_ 3 rfl ?_);refine lc3_ ?_)|((with_reducible refine gst_ 36 rfl ?_);refine sa36_ ?_)|((with_reducible refine gld_ 36 rfl ?_);refine la36_ ?_))
                  go_ret; exact ⟨er_, pB_ HB.out⟩
                ·rw [if_neg c94] at H
                 have c94b0 : (a0_0 == 7) = false := beq_eq_false_iff_ne.mpr c94; have c94b1 : (a0_0 != 7) = true := bne_iff_ne.mpr c94; obtain rfl := Option.some.inj H
                 go_wp2_with (first|((with_reducible refine gld_ 34 rfl ?_);(first|refine la34o1_ ?_|refine la34o7_ ?_))|((with_reducible refine gld_ 3 rfl ?_);refine lc3_ ?_)|((with_reducible refine gst_ 36 rfl ?_);refine sa36_ ?_)|((with_reducible refine gld_ 36 rfl ?_);refine la36_ ?_))
                 go_ret; exact ⟨er_, pB_ HB.out⟩

end Go.Proofs.Ytoacddcbiceeeab.PFnCostAdds
