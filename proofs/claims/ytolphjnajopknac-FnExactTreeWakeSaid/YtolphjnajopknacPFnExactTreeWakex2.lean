-- by a program of this session's, over the kit's words
import Derived.Test.YtolphjnajopknacPZFnExactTreeWake
import Derived.Test.YtolphjnajopknacPFnExactTreeWakex0
import Derived.Test.YtolphjnajopknacPFnExactTreeWakex1
namespace Go.Proofs.Ytolphjnajopknac.PFnExactTreeWake
open Go.RowKit Go.Proofs.YtolphjnajopknacW.PrintWords Go.Proofs.YtolphjnajopknacW.PrintLast Go.Proofs.YtolphjnajopknacW.PrintMore Go.Proofs.YtolphjnajopknacV Go.Proofs.Ytolphjnajopknac.ZFnExactTreeWake
open Go.Value renaming int → I, slice → Y
open Go.IntKind renaming i64 → L
open Aside0 renaming mk → D
open Option renaming bind_eq_some_iff → bs_
attribute [local go_sem] max2_int min2_int max_two min_two max_three min_three max_four min_four   -- for this text's walks alone
set_option linter.unusedVariables false
set_option linter.unusedSimpArgs false

/-! ### spec_FairOk: function 30 -/
mutual
def spec_FairOk.j0 : Nat → Bool → Int → Int → Int → Int → List (S52) → Option (Bool)
 | 0, _, _, _, _, _, _ => none
 | k + 1, x22, x119000, x119001, x119002, x119003, x119004 => if x22 = true then (some false) else (spec_FairOk.l0 k 0 x119000 x119001 x119002 x119003 x119004)
def spec_FairOk.l0 : Nat → Int → Int → Int → Int → Int → List (S52) → Option (Bool)
 | 0, _, _, _, _, _, _ => none
 | k + 1,x3,x119000,x119001,x119002,x119003,x119004=>if x3 < (x119004.length:Int) then (if 0≤x3 then (if ((rd_T52 x119004 x3).f0) < 0 then (spec_FairOk.j2 k x3 true x119000 x119001 x119002 x119003 x119004 ((rd_T52 x119004 x3).f0) ((rd_T52 x119004 x3).f1) ((rd_T52 x119004 x3).f2) ((rd_T52 x119004 x3).f3.f0) ((rd_T52 x119004 x3).f3.f1) ((rd_T52 x119004 x3).f3.f2)) else (if ((rd_T52 x119004 x3).f0) > 9999 then (spec_FairOk.j2 k x3 true x119000 x119001 x119002 x119003 x119004 ((rd_T52 x119004 x3).f0) ((rd_T52 x119004 x3).f1) ((rd_T52 x119004 x3).f2) ((rd_T52 x119004 x3).f3.f0) ((rd_T52 x119004 x3).f3.f1) ((rd_T52 x119004 x3).f3.f2)) else (if x3 > 0 then (if 0≤(wrap64 (x3 - 1)) then (if (wrap64 (x3 - 1)) < (x119004.length:Int) then (if ((rd_T52 x119004 (wrap64 (x3 - 1))).f0) ≥ ((rd_T52 x119004 x3).f0) then (spec_FairOk.j2 k x3 true x119000 x119001 x119002 x119003 x119004 ((rd_T52 x119004 x3).f0) ((rd_T52 x119004 x3).f1) ((rd_T52 x119004 x3).f2) ((rd_T52 x119004 x3).f3.f0) ((rd_T52 x119004 x3).f3.f1) ((rd_T52 x119004 x3).f3.f2)) else ((spec_Stride.f ((rd_T52 x119004 x3).f1)).bind fun t124=>(if t124=0 then (spec_FairOk.j2 k x3 true x119000 x119001 x119002 x119003 x119004 ((rd_T52 x119004 x3).f0) ((rd_T52 x119004 x3).f1) ((rd_T52 x119004 x3).f2) ((rd_T52 x119004 x3).f3.f0) ((rd_T52 x119004 x3).f3.f1) ((rd_T52 x119004 x3).f3.f2)) else ((spec_Narrow.f ((rd_T52 x119004 x3).f3.f0) ((rd_T52 x119004 x3).f3.f1) ((rd_T52 x119004 x3).f3.f2) x119000).bind fun t125=>(spec_FairOk.j2 k x3 (!t125) x119000 x119001 x119002 x119003 x119004 ((rd_T52 x119004 x3).f0) ((rd_T52 x119004 x3).f1) ((rd_T52 x119004 x3).f2) ((rd_T52 x119004 x3).f3.f0) ((rd_T52 x119004 x3).f3.f1) ((rd_T52 x119004 x3).f3.f2)))))) else (none)) else (none)) else ((spec_Stride.f ((rd_T52 x119004 x3).f1)).bind fun t126=>(if t126=0 then (spec_FairOk.j2 k x3 true x119000 x119001 x119002 x119003 x119004 ((rd_T52 x119004 x3).f0) ((rd_T52 x119004 x3).f1) ((rd_T52 x119004 x3).f2) ((rd_T52 x119004 x3).f3.f0) ((rd_T52 x119004 x3).f3.f1) ((rd_T52 x119004 x3).f3.f2)) else ((spec_Narrow.f ((rd_T52 x119004 x3).f3.f0) ((rd_T52 x119004 x3).f3.f1) ((rd_T52 x119004 x3).f3.f2) x119000).bind fun t127=>(spec_FairOk.j2 k x3 (!t127) x119000 x119001 x119002 x119003 x119004 ((rd_T52 x119004 x3).f0) ((rd_T52 x119004 x3).f1) ((rd_T52 x119004 x3).f2) ((rd_T52 x119004 x3).f3.f0) ((rd_T52 x119004 x3).f3.f1) ((rd_T52 x119004 x3).f3.f2)))))))) else (none)) else (some true)
def spec_FairOk.j2 : Nat → Int → Bool → Int → Int → Int → Int → List (S52) → Int → Int → Bool → Int → Int → Int → Option (Bool)
 | 0, _, _, _, _, _, _, _, _, _, _, _, _, _ => none
 | k + 1,x3,x72,x119000,x119001,x119002,x119003,x119004,x123000,x123001,x123002,x123003,x123004,x123005=>if x72=true then (some false) else ((spec_VecTop.f x123003 x123004 x123005).bind fun t128=>((spec_VecTop.f x119001 x119002 x119003).bind fun t129=>((spec_Stride.f x123001).bind fun t130=>(if t128 > (wrap64 (t129 + (wrap64 (t130 * 2000)))) then (some false) else (if x123002=true then ((spec_VecTop.f x123003 x123004 x123005).bind fun t131=>((spec_VecTop.f x119001 x119002 x119003).bind fun t132=>(if t131 < t132 then (some false) else (spec_FairOk.l0 k (wrap64 (x3 + 1)) x119000 x119001 x119002 x119003 x119004)))) else (spec_FairOk.l0 k (wrap64 (x3 + 1)) x119000 x119001 x119002 x119003 x119004))))))
end
def spec_FairOk.f (k : Nat) (a0_0 a0_1 a0_2 a0_3 : Int) (l0_4 : List (S52)) : Option (Bool) := (spec_Narrow.f a0_1 a0_2 a0_3 a0_0).bind fun t119 => (if t119 = true then ((spec_VecTop.f a0_1 a0_2 a0_3).bind fun t120 => (if t120 > 100000000000 then (spec_FairOk.j0 k true a0_0 a0_1 a0_2 a0_3 l0_4) else (spec_FairOk.j0 k (decide ((l0_4.length : Int) > 48)) a0_0 a0_1 a0_2 a0_3 l0_4))) else (spec_FairOk.j0 k true a0_0 a0_1 a0_2 a0_3 l0_4))
def spec_FairOk.T7 : Bool × List (List Nat × List Nat) := (true, [([], []), ([0], [0]), ([1], [1]), ([2], [2]), ([3], [3]), ([4, 3], [3, 4]), ([5, 3], [3, 5]), ([3, 6], [3, 6]), ([7, 3], [7]), ([8], [8]), ([9, 8], [8, 9]), ([10, 8, 8], [8, 10]), ([11], [11]), ([12, 11], [11, 12]), ([11], [11]), ([14, 11], [11, 14]), ([13, 15, 11], [11, 13, 15]), ([16, 11], [11, 16]), ([17, 11], [11, 17]), ([11], [11]), ([19, 11], [11, 19]), ([18, 20, 11], [11, 18, 20]), ([11, 21, 8], [8, 11, 21]), ([8, 22], [8, 22]), ([23, 11], [23]), ([24], [24]), ([25, 24], [24, 25]), ([26, 24, 24], [24, 26]), ([27, 24], [24, 27]), ([24, 28], [24, 28]), ([29, 27], [29]), ([30], [30]), ([31, 30], [30, 31]), ([30], [30]), ([33, 30], [30, 33]), ([32, 34, 30, 30], [30, 32, 34]), ([35, 30], [30, 35]), ([30, 36], [30, 36])])
def spec_FairOk.B7 : List Nat := [0, 1, 3, 7, 15, 31, 63, 127, 255, 511, 1023, 2047, 4095, 8191, 4095, 20479, 65535, 131071, 262143, 4095, 528383, 2097151, 4194303, 8388607, 16777215, 33554431, 67108863, 134217727, 268435455, 536870911, 1073741823, 2147483647, 4294967295, 2147483647, 10737418239, 34359738367, 68719476735, 137438953471]
theorem spec_FairOk.tab7 : rtab .any (opsOf Try.f30 7) = spec_FairOk.T7 := by kernel_rfl
theorem spec_FairOk.bits7 : waitsOk spec_FairOk.T7.2 spec_FairOk.B7 = true := by kernel_rfl
def spec_FairOk.T9 : Bool × List (List Nat × List Nat) := (true, [([], []), ([0], [0]), ([1], [1]), ([], []), ([3], [3]), ([4, 2], [4]), ([], []), ([6], [6]), ([7, 5], [7]), ([8], [8]), ([5, 9], [5, 9]), ([2, 10], [2, 10]), ([11, 8], [11]), ([12], [12]), ([13, 12], [12, 13]), ([14, 12, 12], [12, 14]), ([15], [15]), ([16, 15], [15, 16]), ([17, 15, 15], [15, 17]), ([15], [15]), ([19, 15], [15, 19]), ([20, 18, 15], [15, 20]), ([18, 21, 15], [15, 18, 21]), ([15, 22, 12], [12, 15, 22]), ([12, 23], [12, 23])])
def spec_FairOk.B9 : List Nat := [0, 1, 3, 0, 8, 31, 0, 64, 255, 511, 1023, 2047, 4095, 8191, 16383, 32767, 65535, 131071, 262143, 65535, 589823, 2097151, 4194303, 8388607, 16777215]
theorem spec_FairOk.tab9 : rtab .any (opsOf Try.f30 9) = spec_FairOk.T9 := by kernel_rfl
theorem spec_FairOk.bits9 : waitsOk spec_FairOk.T9.2 spec_FairOk.B9 = true := by kernel_rfl
set_option maxHeartbeats 8000000 in
set_option maxRecDepth 100000 in
theorem spec_FairOk.calls (k : Nat) (a0_0 a0_1 a0_2 a0_3 : Int) (A0_4 : Option Addr) (c0_4 : Nat) (l0_4 : List (S52)) (r : Bool) (w : World) (hr0_4 : Kd.C k52 w A0_4 l0_4.length l0_4) (hc0_4 : l0_4.length ≤ c0_4) (h : spec_FairOk.f k a0_0 a0_1 a0_2 a0_3 l0_4 = some r) :
  Calls Try.prog 30 #[.agg #[I L a0_0, I L a0_1, I L a0_2, I L a0_3, Y A0_4 l0_4.length c0_4]] w fun e w' => e = .returned (.bool r) ∧ Below w.heap.size w w' := by
 have hu34 := Try.underlying34
 have hu31 := Try.underlying31
 have hu52 := Try.underlying52
 have HR0_4 := D hr0_4
 have HC0_4 := D hc0_4
 clear hr0_4 hc0_4
 have HB := D (Below.refl w.heap.size w)
 have H:((spec_Narrow.f a0_1 a0_2 a0_3 a0_0).bind fun Uc=>(if Uc=true then ((spec_VecTop.f a0_1 a0_2 a0_3).bind fun Jb=>(if Jb > 100000000000 then (spec_FairOk.j0 k true a0_0 a0_1 a0_2 a0_3 l0_4) else (spec_FairOk.j0 k (decide ((l0_4.length:Int) > 48)) a0_0 a0_1 a0_2 a0_3 l0_4))) else (spec_FairOk.j0 k true a0_0 a0_1 a0_2 a0_3 l0_4)))=some r:=h
 clear h
 have HC2 := D H
 clear H
 go_enter Try.func30, Try.ntmps30
 go_upto_region 1 with (first|((with_reducible refine gate_dst (N:=1) rfl ?_);(try (refine gate_guard (by rfl) ?_;dsimp only));refine bx_ (N:=1) (cs:=#[I L a0_0,I L a0_1,I L a0_2,I L a0_3,Y A0_4 l0_4.length c0_4]) (t:=34) ?_;intro Oa hg w3 hbox hb;have n_:=an_ (below_step (pB_ HB.out) hb)<|an_ (hbox)<|an_ (bg_ hg (pB_ HB.out):w.heap.size≤Oa)<|D (bg_ hg (pB_ HB.out):w.heap.size≤Oa);clear HB;obtain ⟨HB,Ja,Mo,Oo⟩:=n_;clear hb hbox hg))
 (try simp only [Act.put, List.setIfInBounds_toArray, List.set_cons_zero, List.set_cons_succ])
 go_cut [22] (fun v22 wc=>∃ (kq:Nat) (Xb:Bool),v22=.bool Xb∧Aside0 (spec_FairOk.j0 kq Xb a0_0 a0_1 a0_2 a0_3 l0_4=some r)∧Aside0 (kq≤k)∧Aside0 (wc.heap[Oa]?=some (.cells #[I L a0_0,I L a0_1,I L a0_2,I L a0_3,(Y A0_4 l0_4.length c0_4)] 34 (0,0)))∧Aside0 (Below w.heap.size w wc))
 case first =>
  have H := HC2.out; clear HC2; obtain ⟨Uc, A40, H⟩ := bs_.mp H; (try dsimp only at H); have A4 := D A40; clear A40
  by_cases c5 : Uc = true
  ·subst c5
   rw [if_pos rfl] at H; obtain ⟨Jb, A60, H⟩ := bs_.mp H; (try dsimp only at H); have A6 := D A60; clear A60
   by_cases c7 : Jb > 100000000000
   ·rw [if_pos c7] at H
    have c7b0:decide (100000000000 < Jb)=true:=decide_eq_true c7;clear c7;refine rw_ c7b0 ?_;have H':=D H;clear H;obtain ⟨Xc,Jd,Md,Od,Ud,Xd,Je,Ke,Me,Oe⟩:=cells5 Ja.out
    go_wp2_with (first|((with_reducible refine gate_callee (f:=49) rfl ?_);refine goesL_ (some 9) rfl rfl Try.func49 (by kernel_rfl) rfl #[.agg #[I L a0_1,I L a0_2,I L a0_3],I L a0_0] rfl Z13 ?_;(with_reducible refine (spec_Narrow.calls a0_1 a0_2 a0_3 a0_0 true _ A4.out).mono ?_);rintro e w9 ⟨rfl,hb⟩;refine ⟨_,rfl,?_⟩;have n_:=an_ (blk_below (pk_ Ja.out) hb)<|D (below_step (pB_ HB.out) hb);clear Ja HB;obtain ⟨Ja,HB⟩:=n_;(try clear hb);obtain ⟨Ue,Xe,Jf,Kf,Mf,Of,Uf,Xf,Jg,Kg⟩:=cells5 Ja.out)|(go_at_call 50;(with_reducible refine (spec_VecTop.calls a0_1 a0_2 a0_3 Jb _ A6.out).mono ?_);rintro e w11 ⟨rfl,hb⟩;have n_:=an_ (blk_below (pk_ Ja.out) hb)<|D (below_step (pB_ HB.out) hb);clear Ja HB;obtain ⟨Ja,HB⟩:=n_;(try clear hb)))
    go_meet
    case rel => exact ⟨_, (true), Z61, H', ⟨by first | omega | exact Nat.le_refl _⟩, ⟨pk_ Ja.out⟩, ⟨pB_ HB.out⟩⟩
   ·rw [if_neg c7] at H
    have c7b0:decide (100000000000 < Jb)=false:=decide_eq_false c7;clear c7;refine rw_ c7b0 ?_;have H':=D H;clear H;obtain ⟨Mg,Og,Ug,Xg,Jh,Kh,Mh,Oh,Uh,Xh⟩:=cells5 Ja.out
    go_wp2_with (first|((with_reducible refine gate_callee (f:=49) rfl ?_);refine goesL_ (some 9) rfl rfl Try.func49 (by kernel_rfl) rfl #[.agg #[I L a0_1,I L a0_2,I L a0_3],I L a0_0] rfl Z13 ?_;(with_reducible refine (spec_Narrow.calls a0_1 a0_2 a0_3 a0_0 true _ A4.out).mono ?_);rintro e w13 ⟨rfl,hb⟩;refine ⟨_,rfl,?_⟩;have n_:=an_ (blk_below (pk_ Ja.out) hb)<|D (below_step (pB_ HB.out) hb);clear Ja HB;obtain ⟨Ja,HB⟩:=n_;(try clear hb);obtain ⟨Ji,Ki,Mi,Oi,Ui,Xi,Jj,Kj,Mj,Oj⟩:=cells5 Ja.out)|(go_at_call 50;(with_reducible refine (spec_VecTop.calls a0_1 a0_2 a0_3 Jb _ A6.out).mono ?_);rintro e w15 ⟨rfl,hb⟩;have n_:=an_ (blk_below (pk_ Ja.out) hb)<|D (below_step (pB_ HB.out) hb);clear Ja HB;obtain ⟨Ja,HB⟩:=n_;(try clear hb);obtain ⟨Uj,Xj,Jk,Kk,Mk,Ok,Uk,Xk,Jm,Km⟩:=cells5 Ja.out))
    go_meet
    case rel => exact ⟨_, (decide ((l0_4.length : Int) > 48)), Z61, H', ⟨by first | omega | exact Nat.le_refl _⟩, ⟨pk_ Ja.out⟩, ⟨pB_ HB.out⟩⟩
  ·replace c5 := Bool.eq_false_iff.mpr c5
   subst c5; rw [if_neg (show ¬ (false = true) by decide)] at H; have H' := D H; clear H; obtain ⟨Mm, Om, Um, Xm, Jn, Kn, Mn, On, Un, Xn⟩ := cells5 Ja.out
   go_wp2_with (first|((with_reducible refine gate_callee (f:=49) rfl ?_);refine goesL_ (some 9) rfl rfl Try.func49 (by kernel_rfl) rfl #[.agg #[I L a0_1,I L a0_2,I L a0_3],I L a0_0] rfl Z13 ?_;(with_reducible refine (spec_Narrow.calls a0_1 a0_2 a0_3 a0_0 false _ A4.out).mono ?_);rintro e w18 ⟨rfl,hb⟩;refine ⟨_,rfl,?_⟩;have n_:=an_ (blk_below (pk_ Ja.out) hb)<|D (below_step (pB_ HB.out) hb);clear Ja HB;obtain ⟨Ja,HB⟩:=n_;(try clear hb)))
   go_meet
   case rel => exact ⟨_, (true), Z61, H', ⟨by first | omega | exact Nat.le_refl _⟩, ⟨pk_ Ja.out⟩, ⟨pB_ HB.out⟩⟩
 case rest =>
  clear HC2
  try clear p2
  try clear c3
  try clear c4
  try clear c5
  try clear c7
  try clear c7b0
  try clear Ue Xe Jf Kf Mf Of Uf Xf Jg Kg
  try clear Mg Og Ug Xg Jh Kh Mh Oh Uh Xh
  try clear Ji Ki Mi Oi Ui Xi Jj Kj Mj Oj
  try clear Uj Xj Jk Kk Mk Ok Uk Xk Jm Km
  try clear Mm Om Um Xm Jn Kn Mn On Un Xn
  try clear Xc Jd Md Od Ud Xd Je Ke Me Oe
  obtain ⟨kq, Xb, rfl, HA, HJ1, Ja, HB⟩ := hcut
  cases kq with
  | zero => exact absurd HA.out (by simp [spec_FairOk.j0])
  | succ kj1 =>
   have H := HA.out; clear HA; simp only [spec_FairOk.j0] at H
   by_cases c19 : Xb = true
   ·subst c19
    rw [if_pos rfl] at H; obtain rfl := Option.some.inj H
    go_wp2
    go_ret; exact ⟨er_, pB_ HB.out⟩
   ·replace c19 := Bool.eq_false_iff.mpr c19
    subst c19; rw [if_neg (show ¬ (false = true) by decide)] at H; have H' := D H; clear H
    go_wp2
    go_loopg [3] kj1 (fun kq v3 w'=>∃ (x3_2:Int),v3=I L x3_2∧Aside0 (spec_FairOk.l0 kq x3_2 a0_0 a0_1 a0_2 a0_3 l0_4=some r)∧Aside0 (kq≤kj1)∧Aside0 (w'.heap[Oa]?=some (.cells #[I L a0_0,I L a0_1,I L a0_2,I L a0_3,(Y A0_4 l0_4.length c0_4)] 34 (0,0)))∧Aside0 (Below w.heap.size w w'))
    case atStart => exact ⟨(0), Z61, H', ⟨Nat.le_refl _⟩, ⟨pk_ Ja.out⟩, ⟨pB_ HB.out⟩⟩
    case round =>
     clear H'
     try clear c1
     try clear p2
     try clear c3
     try clear c4
     try clear c5
     try clear c7
     try clear c7b0
     try clear c19
     try clear Ue Xe Jf Kf Mf Of Uf Xf Jg Kg
     try clear Mg Og Ug Xg Jh Kh Mh Oh Uh Xh
     try clear Ji Ki Mi Oi Ui Xi Jj Kj Mj Oj
     try clear Uj Xj Jk Kk Mk Ok Uk Xk Jm Km
     try clear Mm Om Um Xm Jn Kn Mn On Un Xn
     try clear Xc Jd Md Od Ud Xd Je Ke Me Oe
     try clear p2
     obtain ⟨x3_2, rfl, HA, HK2, Ja, HB⟩ := hrel
     cases gk with
     | zero => exact absurd HA.out (by simp [spec_FairOk.l0])
     | succ k2 =>
      have H := HA.out; clear HA; simp only [spec_FairOk.l0] at H
      by_cases c20 : x3_2 < (l0_4.length : Int)
      ·rw [if_pos c20] at H
       have c20b0 : decide (x3_2 < (l0_4.length : Int)) = true := decide_eq_true c20; clear c20
       by_cases c21 : 0 ≤ x3_2
       ·rw [if_pos c21] at H
        have c21b0:decide (0≤x3_2)=true:=decide_eq_true c21;clear c21;have HC22:=D H;clear H;obtain ⟨Uo,Xo,Jp,Kp,Mp,Op,Up,Xp,Jq,Kq⟩:=cells5 Ja.out;have p121:0≤(x3_2:Int):=od_ Z60;have q121:x3_2 < (l0_4.length:Int):=od_ Z60;obtain ⟨ad121,e121,hx121_0,hx121_1,hx121_2,hx121_3,hx121_4,hx121_5⟩:=at_T52 HR0_4.out x3_2 p121 q121;cases e121;replace hx121_0:=rc_ HB.out hx121_0;replace hx121_1:=rc_ HB.out hx121_1;replace hx121_2:=rc_ HB.out hx121_2;replace hx121_3:=rc_ HB.out hx121_3;replace hx121_4:=rc_ HB.out hx121_4;replace hx121_5:=rc_ HB.out hx121_5;replace p121:=eq_true p121;replace q121:=eq_true q121
        go_upto_region 7 with (first|((with_reducible refine gate_dst (N:=4) rfl ?_);(try (refine gate_guard (by rfl) ?_;dsimp only));refine bx_ (N:=4) (cs:=#[I L 0,I L 0,.bool false,I L 0,I L 0,I L 0]) (t:=52) ?_;intro Ma hg w24 hbox hb;have n_:=an_ (blk_below (pk_ Ja.out) hb)<|an_ (below_step (pB_ HB.out) hb)<|an_ (hbox)<|an_ (bg_ hg (pB_ HB.out):w.heap.size≤Ma)<|an_ (bg_ hg (pB_ HB.out):w.heap.size≤Ma)<|an_ ((by rw [hg];exact Nat.ne_of_lt (blk_lt (pk_ Ja.out)):Oa≠Ma))<|D (by rw [hg];exact Nat.ne_of_gt (blk_lt (pk_ Ja.out)):Ma≠Oa);clear Ja HB;obtain ⟨Ja,HB,Ka,Mq,Oq,Ua,Ko⟩:=n_;clear hb hbox hg;(try have hnb25:=Ko.out);(try have hnc25:=Ua.out);obtain ⟨Uq,Xq,Jr,Kr,Mr,Or,Ur,Xr,Js,Ks,Ms,Os⟩:=cells6 Ka.out))
        (try simp only [Act.put, List.setIfInBounds_toArray, List.set_cons_zero, List.set_cons_succ])
        go_cut [72] (fun v72 wc=>∃ (kq:Nat) (Jc:Bool),v72=.bool Jc∧Aside0 (spec_FairOk.j2 kq x3_2 Jc a0_0 a0_1 a0_2 a0_3 l0_4 ((rd_T52 l0_4 x3_2).f0) ((rd_T52 l0_4 x3_2).f1) ((rd_T52 l0_4 x3_2).f2) ((rd_T52 l0_4 x3_2).f3.f0) ((rd_T52 l0_4 x3_2).f3.f1) ((rd_T52 l0_4 x3_2).f3.f2)=some r)∧Aside0 (kq≤k2)∧Aside0 (wc.heap[Oa]?=some (.cells #[I L a0_0,I L a0_1,I L a0_2,I L a0_3,(Y (some ad121) l0_4.length c0_4)] 34 (0,0)))∧Aside0 (wc.heap[Ma]?=some (.cells #[I L ((rd_T52 l0_4 x3_2).f0),I L ((rd_T52 l0_4 x3_2).f1),.bool ((rd_T52 l0_4 x3_2).f2),I L ((rd_T52 l0_4 x3_2).f3.f0),I L ((rd_T52 l0_4 x3_2).f3.f1),I L ((rd_T52 l0_4 x3_2).f3.f2)] 52 (0,0)))∧Aside0 (Below w.heap.size w wc))
        case first =>
         have H := HC22.out; clear HC22
         by_cases c27 : ((rd_T52 l0_4 x3_2).f0) < 0
         ·rw [if_pos c27] at H
          have c27b0:decide (((rd_T52 l0_4 x3_2).f0) < 0)=true:=decide_eq_true c27;clear c27;refine rw_ c27b0 ?_;have H':=D H;clear H
          try go_wp2
          obtain ⟨w28,hq_⟩:∃ W_,W_=((((((w24.setCell ⟨Ma,0,none⟩ (I L ((rd_T52 l0_4 x3_2).f0))).setCell ⟨Ma,1,none⟩ (I L ((rd_T52 l0_4 x3_2).f1))).setCell ⟨Ma,2,none⟩ (.bool ((rd_T52 l0_4 x3_2).f2))).setCell ⟨Ma,3,none⟩ (I L ((rd_T52 l0_4 x3_2).f3.f0))).setCell ⟨Ma,4,none⟩ (I L ((rd_T52 l0_4 x3_2).f3.f1))).setCell ⟨Ma,5,none⟩ (I L ((rd_T52 l0_4 x3_2).f3.f2))):=⟨_,rfl⟩;have n0_:Aside0 (w28.heap[Oa]?=some (.cells #[I L a0_0,I L a0_1,I L a0_2,I L a0_3,Y (some ad121) l0_4.length c0_4] 34 (0,0))):=⟨by rw [hq_];exact pP_ Ja.out⟩;have n1_:Aside0 (w28.heap[Ma]?=some (.cells #[I L ((rd_T52 l0_4 x3_2).f0),I L ((rd_T52 l0_4 x3_2).f1),.bool ((rd_T52 l0_4 x3_2).f2),I L ((rd_T52 l0_4 x3_2).f3.f0),I L ((rd_T52 l0_4 x3_2).f3.f1),I L ((rd_T52 l0_4 x3_2).f3.f2)] 52 (0,0))):=⟨by rw [hq_];exact pP_ Ka.out⟩;have n2_:Aside0 (Below w.heap.size w w28):=⟨by rw [hq_];exact pB_ HB.out⟩;(try clear Ja);(try clear Ka);(try clear HB);(try rw [←hq_]);clear hq_;have Ja:=n0_;have Ka:=n1_;have HB:=n2_;clear n0_ n1_ n2_
          have n_ := an_ (blk_drew Ja.out) <| an_ (blk_drew Ka.out) <| D (below_drew1 HB.out)
          clear Ja Ka HB;obtain ⟨Ja,Ka,HB⟩:=n_;refine start_ (n:=38) (S:=fun w'=>w'.cell? ⟨Ma,0,none⟩=some (I L ((rd_T52 l0_4 x3_2).f0))∧w'.cell? ⟨Ma,1,none⟩=some (I L ((rd_T52 l0_4 x3_2).f1))∧w'.cell? ⟨Ma,2,none⟩=some (.bool ((rd_T52 l0_4 x3_2).f2))∧w'.cell? ⟨Ma,3,none⟩=some (I L ((rd_T52 l0_4 x3_2).f3.f0))∧w'.cell? ⟨Ma,4,none⟩=some (I L ((rd_T52 l0_4 x3_2).f3.f1))∧w'.cell? ⟨Ma,5,none⟩=some (I L ((rd_T52 l0_4 x3_2).f3.f2))) (ds:=[]) (bz 38 0) (by kernel_rfl) rfl (by kernel_rfl) ⟨bc_ Ka.out 0,bc_ Ka.out 1,bc_ Ka.out 2,bc_ Ka.out 3,bc_ Ka.out 4,bc_ Ka.out 5⟩ (fun hHeld=>?_);refine with_tabW spec_FairOk.tab7 spec_FairOk.bits7 (fun HT_ HW_=>?_);generalize w28.drew=w29 at Ja Ka HB hHeld ⊢;refine pb_ 0 ?_;refine tb_ 1 rfl rfl hHeld Z57 ?_;refine pb_ 2 ?_;refine pb_ 3 ?_;refine ob_ 4 ?_;refine ob_ 5 ?_;refine ob_ 6 ?_;refine pb_ 7 ?_;refine pb_ 8 ?_;refine ob_ 9 ?_;refine ob_ 10 ?_;refine ob_ 11 ?_;refine ob_ 12 ?_;refine ob_ 13 ?_;refine ob_ 14 ?_;refine ob_ 15 ?_;refine ob_ 16 ?_;refine ob_ 17 ?_;refine ob_ 18 ?_;refine ob_ 19 ?_;refine ob_ 20 ?_;refine ob_ 21 ?_;refine ob_ 22 ?_;refine pb_ 23 ?_;refine pb_ 24 ?_;refine ob_ 25 ?_;refine ob_ 26 ?_;refine ob_ 27 ?_;refine ob_ 28 ?_;refine pb_ 29 ?_;refine pb_ 30 ?_;refine ob_ 31 ?_;refine ob_ 32 ?_;refine ob_ 33 ?_;refine ob_ 34 ?_;refine ob_ 35 ?_
          refine ob_ 36 ?_;refine pb_ 37 ?_;refine done_ (done_of HT_.out (by kernel_rfl)) ?_
          try go_wp2
          go_meet
          case rel => exact ⟨_, (true), Z61, H', ⟨by have := HJ1.out; have := HK2.out; first | omega | exact Nat.le_refl _⟩, ⟨pk_ Ja.out⟩, ⟨pk_ Ka.out⟩, ⟨pB_ HB.out⟩⟩
         ·rw [if_neg c27] at H
          have c27b0:decide (((rd_T52 l0_4 x3_2).f0) < 0)=false:=decide_eq_false c27;clear c27;refine rw_ c27b0 ?_
          by_cases c30 : ((rd_T52 l0_4 x3_2).f0) > 9999
          ·rw [if_pos c30] at H
           have c30b0 : decide (9999 < ((rd_T52 l0_4 x3_2).f0)) = true := decide_eq_true c30; clear c30; have H' := D H; clear H
           try go_wp2
           obtain ⟨w31,hq_⟩:∃ W_,W_=((((((w24.setCell ⟨Ma,0,none⟩ (I L ((rd_T52 l0_4 x3_2).f0))).setCell ⟨Ma,1,none⟩ (I L ((rd_T52 l0_4 x3_2).f1))).setCell ⟨Ma,2,none⟩ (.bool ((rd_T52 l0_4 x3_2).f2))).setCell ⟨Ma,3,none⟩ (I L ((rd_T52 l0_4 x3_2).f3.f0))).setCell ⟨Ma,4,none⟩ (I L ((rd_T52 l0_4 x3_2).f3.f1))).setCell ⟨Ma,5,none⟩ (I L ((rd_T52 l0_4 x3_2).f3.f2))):=⟨_,rfl⟩;have n0_:Aside0 (w31.heap[Oa]?=some (.cells #[I L a0_0,I L a0_1,I L a0_2,I L a0_3,Y (some ad121) l0_4.length c0_4] 34 (0,0))):=⟨by rw [hq_];exact pP_ Ja.out⟩;have n1_:Aside0 (w31.heap[Ma]?=some (.cells #[I L ((rd_T52 l0_4 x3_2).f0),I L ((rd_T52 l0_4 x3_2).f1),.bool ((rd_T52 l0_4 x3_2).f2),I L ((rd_T52 l0_4 x3_2).f3.f0),I L ((rd_T52 l0_4 x3_2).f3.f1),I L ((rd_T52 l0_4 x3_2).f3.f2)] 52 (0,0))):=⟨by rw [hq_];exact pP_ Ka.out⟩;have n2_:Aside0 (Below w.heap.size w w31):=⟨by rw [hq_];exact pB_ HB.out⟩;(try clear Ja);(try clear Ka);(try clear HB);(try rw [←hq_]);clear hq_;have Ja:=n0_;have Ka:=n1_;have HB:=n2_;clear n0_ n1_ n2_
           have n_ := an_ (blk_drew Ja.out) <| an_ (blk_drew Ka.out) <| D (below_drew1 HB.out)
           clear Ja Ka HB;obtain ⟨Ja,Ka,HB⟩:=n_;refine start_ (n:=38) (S:=fun w'=>w'.cell? ⟨Ma,0,none⟩=some (I L ((rd_T52 l0_4 x3_2).f0))∧w'.cell? ⟨Ma,1,none⟩=some (I L ((rd_T52 l0_4 x3_2).f1))∧w'.cell? ⟨Ma,2,none⟩=some (.bool ((rd_T52 l0_4 x3_2).f2))∧w'.cell? ⟨Ma,3,none⟩=some (I L ((rd_T52 l0_4 x3_2).f3.f0))∧w'.cell? ⟨Ma,4,none⟩=some (I L ((rd_T52 l0_4 x3_2).f3.f1))∧w'.cell? ⟨Ma,5,none⟩=some (I L ((rd_T52 l0_4 x3_2).f3.f2))) (ds:=[]) (bz 38 0) (by kernel_rfl) rfl (by kernel_rfl) ⟨bc_ Ka.out 0,bc_ Ka.out 1,bc_ Ka.out 2,bc_ Ka.out 3,bc_ Ka.out 4,bc_ Ka.out 5⟩ (fun hHeld=>?_);refine with_tabW spec_FairOk.tab7 spec_FairOk.bits7 (fun HT_ HW_=>?_);generalize w31.drew=w32 at Ja Ka HB hHeld ⊢;refine pb_ 0 ?_;refine tb_ 1 rfl rfl hHeld Z57 ?_;refine pb_ 2 ?_;refine pb_ 3 ?_;refine pb_ 4 ?_;refine tb_ 5 rfl rfl hHeld Z57 ?_;refine pb_ 6 ?_;refine pb_ 7 ?_;refine pb_ 8 ?_;refine ob_ 9 ?_;refine ob_ 10 ?_;refine ob_ 11 ?_;refine ob_ 12 ?_;refine ob_ 13 ?_;refine ob_ 14 ?_;refine ob_ 15 ?_;refine ob_ 16 ?_;refine ob_ 17 ?_;refine ob_ 18 ?_;refine ob_ 19 ?_;refine ob_ 20 ?_;refine ob_ 21 ?_;refine ob_ 22 ?_;refine pb_ 23 ?_;refine pb_ 24 ?_;refine ob_ 25 ?_;refine ob_ 26 ?_;refine ob_ 27 ?_;refine ob_ 28 ?_;refine pb_ 29 ?_;refine pb_ 30 ?_;refine ob_ 31 ?_;refine ob_ 32 ?_;refine ob_ 33 ?_;refine ob_ 34 ?_
           refine ob_ 35 ?_;refine ob_ 36 ?_;refine pb_ 37 ?_;refine done_ (done_of HT_.out (by kernel_rfl)) ?_
           try go_wp2
           go_meet
           case rel => exact ⟨_, (true), Z61, H', ⟨by have := HJ1.out; have := HK2.out; first | omega | exact Nat.le_refl _⟩, ⟨pk_ Ja.out⟩, ⟨pk_ Ka.out⟩, ⟨pB_ HB.out⟩⟩
          ·rw [if_neg c30] at H
           have c30b0 : decide (9999 < ((rd_T52 l0_4 x3_2).f0)) = false := decide_eq_false c30; clear c30
           by_cases c33 : x3_2 > 0
           ·rw [if_pos c33] at H
            have c33b0 : decide (0 < x3_2) = true := decide_eq_true c33; clear c33; obtain ⟨ji34, hji34⟩ : ∃ j_ : Int, (wrap64 (x3_2 - 1)) = j_ := ⟨_, rfl⟩
            replace H:(if 0≤(ji34) then (if (ji34) < (l0_4.length:Int) then (if ((rd_T52 l0_4 (ji34)).f0) ≥ ((rd_T52 l0_4 x3_2).f0) then (spec_FairOk.j2 k2 x3_2 true a0_0 a0_1 a0_2 a0_3 l0_4 ((rd_T52 l0_4 x3_2).f0) ((rd_T52 l0_4 x3_2).f1) ((rd_T52 l0_4 x3_2).f2) ((rd_T52 l0_4 x3_2).f3.f0) ((rd_T52 l0_4 x3_2).f3.f1) ((rd_T52 l0_4 x3_2).f3.f2)) else ((spec_Stride.f ((rd_T52 l0_4 x3_2).f1)).bind fun Xa=>(if Xa=0 then (spec_FairOk.j2 k2 x3_2 true a0_0 a0_1 a0_2 a0_3 l0_4 ((rd_T52 l0_4 x3_2).f0) ((rd_T52 l0_4 x3_2).f1) ((rd_T52 l0_4 x3_2).f2) ((rd_T52 l0_4 x3_2).f3.f0) ((rd_T52 l0_4 x3_2).f3.f1) ((rd_T52 l0_4 x3_2).f3.f2)) else ((spec_Narrow.f ((rd_T52 l0_4 x3_2).f3.f0) ((rd_T52 l0_4 x3_2).f3.f1) ((rd_T52 l0_4 x3_2).f3.f2) a0_0).bind fun Kc=>(spec_FairOk.j2 k2 x3_2 (!Kc) a0_0 a0_1 a0_2 a0_3 l0_4 ((rd_T52 l0_4 x3_2).f0) ((rd_T52 l0_4 x3_2).f1) ((rd_T52 l0_4 x3_2).f2) ((rd_T52 l0_4 x3_2).f3.f0) ((rd_T52 l0_4 x3_2).f3.f1) ((rd_T52 l0_4 x3_2).f3.f2)))))) else (none)) else (none))=some r:=by first|(rw [hji34] at H;exact H)|(simp only [hji34] at H ⊢;exact H)
            have hji34w : (IntKind.i64.wrap (x3_2 - 1)) = ji34 := (i64_w _).trans hji34
            by_cases c35 : 0 ≤ (ji34)
            ·rw [if_pos c35] at H
             have c35b0 : decide (0 ≤ (ji34)) = true := decide_eq_true c35; clear c35
             by_cases c36 : (ji34) < (l0_4.length : Int)
             ·rw [if_pos c36] at H
              have c36b0 : decide ((ji34) < (l0_4.length : Int)) = true := decide_eq_true c36; clear c36
              by_cases c37 : ((rd_T52 l0_4 (ji34)).f0) ≥ ((rd_T52 l0_4 x3_2).f0)
              ·rw [if_pos c37] at H
               have c37b0 : decide (((rd_T52 l0_4 x3_2).f0) ≤ ((rd_T52 l0_4 (ji34)).f0)) = true := decide_eq_true c37; clear c37; have H' := D H; clear H
               try go_wp2
               obtain ⟨w38,hq_⟩:∃ W_,W_=((((((w24.setCell ⟨Ma,0,none⟩ (I L ((rd_T52 l0_4 x3_2).f0))).setCell ⟨Ma,1,none⟩ (I L ((rd_T52 l0_4 x3_2).f1))).setCell ⟨Ma,2,none⟩ (.bool ((rd_T52 l0_4 x3_2).f2))).setCell ⟨Ma,3,none⟩ (I L ((rd_T52 l0_4 x3_2).f3.f0))).setCell ⟨Ma,4,none⟩ (I L ((rd_T52 l0_4 x3_2).f3.f1))).setCell ⟨Ma,5,none⟩ (I L ((rd_T52 l0_4 x3_2).f3.f2))):=⟨_,rfl⟩;have n0_:Aside0 (w38.heap[Oa]?=some (.cells #[I L a0_0,I L a0_1,I L a0_2,I L a0_3,Y (some ad121) l0_4.length c0_4] 34 (0,0))):=⟨by rw [hq_];exact pP_ Ja.out⟩;have n1_:Aside0 (w38.heap[Ma]?=some (.cells #[I L ((rd_T52 l0_4 x3_2).f0),I L ((rd_T52 l0_4 x3_2).f1),.bool ((rd_T52 l0_4 x3_2).f2),I L ((rd_T52 l0_4 x3_2).f3.f0),I L ((rd_T52 l0_4 x3_2).f3.f1),I L ((rd_T52 l0_4 x3_2).f3.f2)] 52 (0,0))):=⟨by rw [hq_];exact pP_ Ka.out⟩;have n2_:Aside0 (Below w.heap.size w w38):=⟨by rw [hq_];exact pB_ HB.out⟩;(try clear Ja);(try clear Ka);(try clear HB);(try rw [←hq_]);clear hq_;have Ja:=n0_;have Ka:=n1_;have HB:=n2_;clear n0_ n1_ n2_
               have n_ := an_ (blk_drew Ja.out) <| an_ (blk_drew Ka.out) <| D (below_drew1 HB.out)
               clear Ja Ka HB;obtain ⟨Ja,Ka,HB⟩:=n_;have p123:0≤((ji34):Int):=od_ Z60;have q123:(ji34) < (l0_4.length:Int):=od_ Z60;obtain ⟨ad123,e123,hx123_0,hx123_1,hx123_2,hx123_3,hx123_4,hx123_5⟩:=at_T52 HR0_4.out (ji34) p123 q123;have hw123_5:=hx123_5;have hw123_4:=hx123_4;have hw123_3:=hx123_3;have hw123_2:=hx123_2;have hw123_1:=hx123_1;have hw123_0:=hx123_0;obtain rfl:ad121=ad123:=(by injection e123);replace hx123_0:=rc_ HB.out hx123_0;replace hx123_1:=rc_ HB.out hx123_1;replace hx123_2:=rc_ HB.out hx123_2;replace hx123_3:=rc_ HB.out hx123_3;replace hx123_4:=rc_ HB.out hx123_4;replace hx123_5:=rc_ HB.out hx123_5;replace p123:=eq_true p123;replace q123:=eq_true q123;refine start_ (n:=38) (S:=fun w'=>w'.cell? ⟨Ma,0,none⟩=some (I L ((rd_T52 l0_4 x3_2).f0))∧w'.cell? ⟨Ma,1,none⟩=some (I L ((rd_T52 l0_4 x3_2).f1))∧w'.cell? ⟨Ma,2,none⟩=some (.bool ((rd_T52 l0_4 x3_2).f2))∧w'.cell? ⟨Ma,3,none⟩=some (I L ((rd_T52 l0_4 x3_2).f3.f0))∧w'.cell? ⟨Ma,4,none⟩=some (I L ((rd_T52 l0_4 x3_2).f3.f1))∧w'.cell? ⟨Ma,5,none⟩=some (I L ((rd_T52 l0_4 x3_2).f3.f2))∧w'.cell? ⟨Oa,0,none⟩=some (I L a0_0)∧w'.cell? ⟨Oa,1,none⟩=some (I L a0_1)∧w'.cell? ⟨Oa,2,none⟩=some (I L a0_2)∧w'.cell? ⟨Oa,3,none⟩=some (I L a0_3)∧w'.cell? ⟨Oa,4,none⟩=some (Y (some ad121) l0_4.length c0_4)∧w'.cell? (ad121.add (((ji34)).toNat * 6))=some (I L ((rd_T52 l0_4 (ji34)).f0))∧w'.cell? ⟨(ad121.add (((ji34)).toNat * 6)).block,(ad121.add (((ji34)).toNat * 6)).off + 1,none⟩=some (I L ((rd_T52 l0_4 (ji34)).f1))∧w'.cell? ⟨(ad121.add (((ji34)).toNat * 6)).block,(ad121.add (((ji34)).toNat * 6)).off + 2,none⟩=some (.bool ((rd_T52 l0_4 (ji34)).f2))∧w'.cell? ⟨(ad121.add (((ji34)).toNat * 6)).block,(ad121.add (((ji34)).toNat * 6)).off + 3,none⟩=some (I L ((rd_T52 l0_4 (ji34)).f3.f0))∧w'.cell? ⟨(ad121.add (((ji34)).toNat * 6)).block,(ad121.add (((ji34)).toNat * 6)).off + 4,none⟩=some (I L ((rd_T52 l0_4 (ji34)).f3.f1))∧w'.cell? ⟨(ad121.add (((ji34)).toNat * 6)).block,(ad121.add (((ji34)).toNat * 6)).off + 5,none⟩=some (I L ((rd_T52 l0_4 (ji34)).f3.f2))) (ds:=[]) (bz 38 0) (by kernel_rfl) rfl (by kernel_rfl) ⟨bc_ Ka.out 0,bc_ Ka.out 1,bc_ Ka.out 2,bc_ Ka.out 3,bc_ Ka.out 4,bc_ Ka.out 5,bc_ Ja.out 0,bc_ Ja.out 1,bc_ Ja.out 2,bc_ Ja.out 3,bc_ Ja.out 4,(rc_ HB.out hw123_0:),(rc_ HB.out hw123_1:),(rc_ HB.out hw123_2:),(rc_ HB.out hw123_3:),(rc_ HB.out hw123_4:),(rc_ HB.out hw123_5:)⟩ (fun hHeld=>?_);refine with_tabW spec_FairOk.tab7 spec_FairOk.bits7 (fun HT_ HW_=>?_);generalize w38.drew=w39 at Ja Ka HB hx123_0 hx123_1 hx123_2 hx123_3 hx123_4 hx123_5 hHeld ⊢;refine pb_ 0 ?_;refine tb_ 1 rfl rfl hHeld Z38 ?_;refine pb_ 2 ?_;refine pb_ 3 ?_;refine pb_ 4 ?_
               refine tb_ 5 rfl rfl hHeld Z38 ?_;refine pb_ 6 ?_;refine pb_ 7 ?_;refine pb_ 8 ?_;refine pb_ 9 ?_;refine pb_ 10 ?_;refine pb_ 11 ?_;refine pb_ 12 ?_;refine pb_ 14 ?_;refine pb_ 15 ?_;refine pb_ 19 ?_;refine tb_ 13 rfl rfl hHeld Z38 ?_;refine pb_ 16 ?_;refine pb_ 17 ?_;refine tb_ 18 rfl rfl hHeld Z38 ?_;refine tb_ 20 rfl rfl hHeld Z38 ?_;refine pb_ 21 ?_;refine pb_ 22 ?_;refine pb_ 23 ?_;refine pb_ 24 ?_;refine ob_ 25 ?_;refine ob_ 26 ?_;refine ob_ 27 ?_;refine ob_ 28 ?_;refine pb_ 29 ?_;refine pb_ 30 ?_;refine ob_ 31 ?_;refine ob_ 32 ?_;refine ob_ 33 ?_;refine ob_ 34 ?_;refine ob_ 35 ?_;refine ob_ 36 ?_;refine pb_ 37 ?_;refine done_ (done_of HT_.out (by kernel_rfl)) ?_
               try go_wp2
               go_meet
               case rel => exact ⟨_, (true), Z61, H', ⟨by have := HJ1.out; have := HK2.out; first | omega | exact Nat.le_refl _⟩, ⟨pk_ Ja.out⟩, ⟨pk_ Ka.out⟩, ⟨pB_ HB.out⟩⟩
              ·rw [if_neg c37] at H
               have c37b0:decide (((rd_T52 l0_4 x3_2).f0)≤((rd_T52 l0_4 (ji34)).f0))=false:=decide_eq_false c37;clear c37;obtain ⟨Xa,A400,H⟩:=bs_.mp H;(try dsimp only at H);have A40:=D A400;clear A400
               by_cases c41 : Xa = 0
               ·rw [if_pos c41] at H
                have c41b0 : (Xa == 0) = true := beq_iff_eq.mpr c41; have c41b1 : (Xa != 0) = false := bne_eq_false_iff_eq.mpr c41; clear c41; have H' := D H; clear H
                try go_wp2
                obtain ⟨w42,hq_⟩:∃ W_,W_=((((((w24.setCell ⟨Ma,0,none⟩ (I L ((rd_T52 l0_4 x3_2).f0))).setCell ⟨Ma,1,none⟩ (I L ((rd_T52 l0_4 x3_2).f1))).setCell ⟨Ma,2,none⟩ (.bool ((rd_T52 l0_4 x3_2).f2))).setCell ⟨Ma,3,none⟩ (I L ((rd_T52 l0_4 x3_2).f3.f0))).setCell ⟨Ma,4,none⟩ (I L ((rd_T52 l0_4 x3_2).f3.f1))).setCell ⟨Ma,5,none⟩ (I L ((rd_T52 l0_4 x3_2).f3.f2))):=⟨_,rfl⟩;have n0_:Aside0 (w42.heap[Oa]?=some (.cells #[I L a0_0,I L a0_1,I L a0_2,I L a0_3,Y (some ad121) l0_4.length c0_4] 34 (0,0))):=⟨by rw [hq_];exact pP_ Ja.out⟩;have n1_:Aside0 (w42.heap[Ma]?=some (.cells #[I L ((rd_T52 l0_4 x3_2).f0),I L ((rd_T52 l0_4 x3_2).f1),.bool ((rd_T52 l0_4 x3_2).f2),I L ((rd_T52 l0_4 x3_2).f3.f0),I L ((rd_T52 l0_4 x3_2).f3.f1),I L ((rd_T52 l0_4 x3_2).f3.f2)] 52 (0,0))):=⟨by rw [hq_];exact pP_ Ka.out⟩;have n2_:Aside0 (Below w.heap.size w w42):=⟨by rw [hq_];exact pB_ HB.out⟩;(try clear Ja);(try clear Ka);(try clear HB);(try rw [←hq_]);clear hq_;have Ja:=n0_;have Ka:=n1_;have HB:=n2_;clear n0_ n1_ n2_
                have n_ := an_ (blk_drew Ja.out) <| an_ (blk_drew Ka.out) <| D (below_drew1 HB.out)
                clear Ja Ka HB;obtain ⟨Ja,Ka,HB⟩:=n_;have p123:0≤((ji34):Int):=od_ Z60;have q123:(ji34) < (l0_4.length:Int):=od_ Z60;obtain ⟨ad123,e123,hx123_0,hx123_1,hx123_2,hx123_3,hx123_4,hx123_5⟩:=at_T52 HR0_4.out (ji34) p123 q123;have hw123_5:=hx123_5;have hw123_4:=hx123_4;have hw123_3:=hx123_3;have hw123_2:=hx123_2;have hw123_1:=hx123_1;have hw123_0:=hx123_0;obtain rfl:ad121=ad123:=(by injection e123);replace hx123_0:=rc_ HB.out hx123_0;replace hx123_1:=rc_ HB.out hx123_1;replace hx123_2:=rc_ HB.out hx123_2;replace hx123_3:=rc_ HB.out hx123_3;replace hx123_4:=rc_ HB.out hx123_4;replace hx123_5:=rc_ HB.out hx123_5;replace p123:=eq_true p123;replace q123:=eq_true q123;refine start_ (n:=38) (S:=fun w'=>w'.cell? ⟨Ma,0,none⟩=some (I L ((rd_T52 l0_4 x3_2).f0))∧w'.cell? ⟨Ma,1,none⟩=some (I L ((rd_T52 l0_4 x3_2).f1))∧w'.cell? ⟨Ma,2,none⟩=some (.bool ((rd_T52 l0_4 x3_2).f2))∧w'.cell? ⟨Ma,3,none⟩=some (I L ((rd_T52 l0_4 x3_2).f3.f0))∧w'.cell? ⟨Ma,4,none⟩=some (I L ((rd_T52 l0_4 x3_2).f3.f1))∧w'.cell? ⟨Ma,5,none⟩=some (I L ((rd_T52 l0_4 x3_2).f3.f2))∧w'.cell? ⟨Oa,0,none⟩=some (I L a0_0)∧w'.cell? ⟨Oa,1,none⟩=some (I L a0_1)∧w'.cell? ⟨Oa,2,none⟩=some (I L a0_2)∧w'.cell? ⟨Oa,3,none⟩=some (I L a0_3)∧w'.cell? ⟨Oa,4,none⟩=some (Y (some ad121) l0_4.length c0_4)∧w'.cell? (ad121.add (((ji34)).toNat * 6))=some (I L ((rd_T52 l0_4 (ji34)).f0))∧w'.cell? ⟨(ad121.add (((ji34)).toNat * 6)).block,(ad121.add (((ji34)).toNat * 6)).off + 1,none⟩=some (I L ((rd_T52 l0_4 (ji34)).f1))∧w'.cell? ⟨(ad121.add (((ji34)).toNat * 6)).block,(ad121.add (((ji34)).toNat * 6)).off + 2,none⟩=some (.bool ((rd_T52 l0_4 (ji34)).f2))∧w'.cell? ⟨(ad121.add (((ji34)).toNat * 6)).block,(ad121.add (((ji34)).toNat * 6)).off + 3,none⟩=some (I L ((rd_T52 l0_4 (ji34)).f3.f0))∧w'.cell? ⟨(ad121.add (((ji34)).toNat * 6)).block,(ad121.add (((ji34)).toNat * 6)).off + 4,none⟩=some (I L ((rd_T52 l0_4 (ji34)).f3.f1))∧w'.cell? ⟨(ad121.add (((ji34)).toNat * 6)).block,(ad121.add (((ji34)).toNat * 6)).off + 5,none⟩=some (I L ((rd_T52 l0_4 (ji34)).f3.f2))) (ds:=[]) (bz 38 0) (by kernel_rfl) rfl (by kernel_rfl) ⟨bc_ Ka.out 0,bc_ Ka.out 1,bc_ Ka.out 2,bc_ Ka.out 3,bc_ Ka.out 4,bc_ Ka.out 5,bc_ Ja.out 0,bc_ Ja.out 1,bc_ Ja.out 2,bc_ Ja.out 3,bc_ Ja.out 4,(rc_ HB.out hw123_0:),(rc_ HB.out hw123_1:),(rc_ HB.out hw123_2:),(rc_ HB.out hw123_3:),(rc_ HB.out hw123_4:),(rc_ HB.out hw123_5:)⟩ (fun hHeld=>?_);refine with_tabW spec_FairOk.tab7 spec_FairOk.bits7 (fun HT_ HW_=>?_);generalize w42.drew=w43 at Ja Ka HB hx123_0 hx123_1 hx123_2 hx123_3 hx123_4 hx123_5 hHeld ⊢;refine pb_ 0 ?_;refine tb_ 1 rfl rfl hHeld Z38 ?_;refine pb_ 2 ?_;refine pb_ 3 ?_;refine pb_ 4 ?_
                refine tb_ 5 rfl rfl hHeld Z38 ?_;refine pb_ 6 ?_;refine pb_ 7 ?_;refine pb_ 8 ?_;refine pb_ 9 ?_;refine pb_ 10 ?_;refine pb_ 11 ?_;refine pb_ 12 ?_;refine pb_ 14 ?_;refine pb_ 15 ?_;refine pb_ 19 ?_;refine tb_ 13 rfl rfl hHeld Z38 ?_;refine pb_ 16 ?_;refine pb_ 17 ?_;refine tb_ 18 rfl rfl hHeld Z38 ?_;refine tb_ 20 rfl rfl hHeld Z38 ?_;refine pb_ 21 ?_;refine pb_ 22 ?_;refine pb_ 23 ?_;refine pb_ 24 ?_;refine pb_ 25 ?_;refine tb_ 26 rfl rfl hHeld Z38 ?_;refine oa_ 27 62 38 268435455 HT_ (fun K hK=>?_);refine goes_ Try.func51 (by kernel_rfl) rfl #[I L ((rd_T52 l0_4 x3_2).f1)] (by rfl) rfl rfl Z13 ?_;with_reducible refine (spec_Stride.calls ((rd_T52 l0_4 x3_2).f1) Xa _ A40.out).mono ?_
                rintro e w' ⟨rfl,⟨nd,rfl⟩⟩;refine ⟨_,rfl,?_⟩;refine hK.out _ _ ⟨bc_ Ka.out 0,bc_ Ka.out 1,bc_ Ka.out 2,bc_ Ka.out 3,bc_ Ka.out 4,bc_ Ka.out 5,bc_ Ja.out 0,bc_ Ja.out 1,bc_ Ja.out 2,bc_ Ja.out 3,bc_ Ja.out 4,(rc_ HB.out hw123_0:),(rc_ HB.out hw123_1:),(rc_ HB.out hw123_2:),(rc_ HB.out hw123_3:),(rc_ HB.out hw123_4:),(rc_ HB.out hw123_5:)⟩ (fun hHeld=>?_);clear hK K;refine nx_ (N:=some 62) ?_;refine pb_ 28 ?_;refine pb_ 29 ?_;refine pb_ 30 ?_;refine ob_ 31 ?_;refine ob_ 32 ?_;refine ob_ 33 ?_;refine ob_ 34 ?_;refine ob_ 35 ?_;refine ob_ 36 ?_;refine pb_ 37 ?_;refine done_ (done_of HT_.out (by kernel_rfl)) ?_
                try go_wp2
                go_meet
                case rel => exact ⟨_, (true), Z61, H', ⟨by have := HJ1.out; have := HK2.out; first | omega | exact Nat.le_refl _⟩, ⟨pk_ Ja.out⟩, ⟨pk_ Ka.out⟩, ⟨pB_ HB.out⟩⟩
               ·rw [if_neg c41] at H
                have c41b0:(Xa == 0)=false:=beq_eq_false_iff_ne.mpr c41;have c41b1:(Xa != 0)=true:=bne_iff_ne.mpr c41;obtain ⟨Kc,A440,H⟩:=bs_.mp H;(try dsimp only at H);have A44:=D A440;clear A440;have H':=D H;clear H
                try go_wp2
                obtain ⟨w45,hq_⟩:∃ W_,W_=((((((w24.setCell ⟨Ma,0,none⟩ (I L ((rd_T52 l0_4 x3_2).f0))).setCell ⟨Ma,1,none⟩ (I L ((rd_T52 l0_4 x3_2).f1))).setCell ⟨Ma,2,none⟩ (.bool ((rd_T52 l0_4 x3_2).f2))).setCell ⟨Ma,3,none⟩ (I L ((rd_T52 l0_4 x3_2).f3.f0))).setCell ⟨Ma,4,none⟩ (I L ((rd_T52 l0_4 x3_2).f3.f1))).setCell ⟨Ma,5,none⟩ (I L ((rd_T52 l0_4 x3_2).f3.f2))):=⟨_,rfl⟩;have n0_:Aside0 (w45.heap[Oa]?=some (.cells #[I L a0_0,I L a0_1,I L a0_2,I L a0_3,Y (some ad121) l0_4.length c0_4] 34 (0,0))):=⟨by rw [hq_];exact pP_ Ja.out⟩;have n1_:Aside0 (w45.heap[Ma]?=some (.cells #[I L ((rd_T52 l0_4 x3_2).f0),I L ((rd_T52 l0_4 x3_2).f1),.bool ((rd_T52 l0_4 x3_2).f2),I L ((rd_T52 l0_4 x3_2).f3.f0),I L ((rd_T52 l0_4 x3_2).f3.f1),I L ((rd_T52 l0_4 x3_2).f3.f2)] 52 (0,0))):=⟨by rw [hq_];exact pP_ Ka.out⟩;have n2_:Aside0 (Below w.heap.size w w45):=⟨by rw [hq_];exact pB_ HB.out⟩;(try clear Ja);(try clear Ka);(try clear HB);(try rw [←hq_]);clear hq_;have Ja:=n0_;have Ka:=n1_;have HB:=n2_;clear n0_ n1_ n2_
                have n_ := an_ (blk_drew Ja.out) <| an_ (blk_drew Ka.out) <| D (below_drew1 HB.out)
                clear Ja Ka HB;obtain ⟨Ja,Ka,HB⟩:=n_;have p123:0≤((ji34):Int):=od_ Z60;have q123:(ji34) < (l0_4.length:Int):=od_ Z60;obtain ⟨ad123,e123,hx123_0,hx123_1,hx123_2,hx123_3,hx123_4,hx123_5⟩:=at_T52 HR0_4.out (ji34) p123 q123;have hw123_5:=hx123_5;have hw123_4:=hx123_4;have hw123_3:=hx123_3;have hw123_2:=hx123_2;have hw123_1:=hx123_1;have hw123_0:=hx123_0;obtain rfl:ad121=ad123:=(by injection e123);replace hx123_0:=rc_ HB.out hx123_0;replace hx123_1:=rc_ HB.out hx123_1;replace hx123_2:=rc_ HB.out hx123_2;replace hx123_3:=rc_ HB.out hx123_3;replace hx123_4:=rc_ HB.out hx123_4;replace hx123_5:=rc_ HB.out hx123_5;replace p123:=eq_true p123;replace q123:=eq_true q123;refine start_ (n:=38) (S:=fun w'=>w'.cell? ⟨Ma,0,none⟩=some (I L ((rd_T52 l0_4 x3_2).f0))∧w'.cell? ⟨Ma,1,none⟩=some (I L ((rd_T52 l0_4 x3_2).f1))∧w'.cell? ⟨Ma,2,none⟩=some (.bool ((rd_T52 l0_4 x3_2).f2))∧w'.cell? ⟨Ma,3,none⟩=some (I L ((rd_T52 l0_4 x3_2).f3.f0))∧w'.cell? ⟨Ma,4,none⟩=some (I L ((rd_T52 l0_4 x3_2).f3.f1))∧w'.cell? ⟨Ma,5,none⟩=some (I L ((rd_T52 l0_4 x3_2).f3.f2))∧w'.cell? ⟨Oa,0,none⟩=some (I L a0_0)∧w'.cell? ⟨Oa,1,none⟩=some (I L a0_1)∧w'.cell? ⟨Oa,2,none⟩=some (I L a0_2)∧w'.cell? ⟨Oa,3,none⟩=some (I L a0_3)∧w'.cell? ⟨Oa,4,none⟩=some (Y (some ad121) l0_4.length c0_4)∧w'.cell? (ad121.add (((ji34)).toNat * 6))=some (I L ((rd_T52 l0_4 (ji34)).f0))∧w'.cell? ⟨(ad121.add (((ji34)).toNat * 6)).block,(ad121.add (((ji34)).toNat * 6)).off + 1,none⟩=some (I L ((rd_T52 l0_4 (ji34)).f1))∧w'.cell? ⟨(ad121.add (((ji34)).toNat * 6)).block,(ad121.add (((ji34)).toNat * 6)).off + 2,none⟩=some (.bool ((rd_T52 l0_4 (ji34)).f2))∧w'.cell? ⟨(ad121.add (((ji34)).toNat * 6)).block,(ad121.add (((ji34)).toNat * 6)).off + 3,none⟩=some (I L ((rd_T52 l0_4 (ji34)).f3.f0))∧w'.cell? ⟨(ad121.add (((ji34)).toNat * 6)).block,(ad121.add (((ji34)).toNat * 6)).off + 4,none⟩=some (I L ((rd_T52 l0_4 (ji34)).f3.f1))∧w'.cell? ⟨(ad121.add (((ji34)).toNat * 6)).block,(ad121.add (((ji34)).toNat * 6)).off + 5,none⟩=some (I L ((rd_T52 l0_4 (ji34)).f3.f2))) (ds:=[]) (bz 38 0) (by kernel_rfl) rfl (by kernel_rfl) ⟨bc_ Ka.out 0,bc_ Ka.out 1,bc_ Ka.out 2,bc_ Ka.out 3,bc_ Ka.out 4,bc_ Ka.out 5,bc_ Ja.out 0,bc_ Ja.out 1,bc_ Ja.out 2,bc_ Ja.out 3,bc_ Ja.out 4,(rc_ HB.out hw123_0:),(rc_ HB.out hw123_1:),(rc_ HB.out hw123_2:),(rc_ HB.out hw123_3:),(rc_ HB.out hw123_4:),(rc_ HB.out hw123_5:)⟩ (fun hHeld=>?_);refine with_tabW spec_FairOk.tab7 spec_FairOk.bits7 (fun HT_ HW_=>?_);generalize w45.drew=w46 at Ja Ka HB hx123_0 hx123_1 hx123_2 hx123_3 hx123_4 hx123_5 hHeld ⊢;refine pb_ 0 ?_;refine tb_ 1 rfl rfl hHeld Z38 ?_;refine pb_ 2 ?_;refine pb_ 3 ?_;refine pb_ 4 ?_
                refine tb_ 5 rfl rfl hHeld Z38 ?_;refine pb_ 6 ?_;refine pb_ 7 ?_;refine pb_ 8 ?_;refine pb_ 9 ?_;refine pb_ 10 ?_;refine pb_ 11 ?_;refine pb_ 12 ?_;refine pb_ 14 ?_;refine pb_ 15 ?_;refine pb_ 19 ?_;refine tb_ 13 rfl rfl hHeld Z38 ?_;refine pb_ 16 ?_;refine pb_ 17 ?_;refine tb_ 18 rfl rfl hHeld Z38 ?_;refine tb_ 20 rfl rfl hHeld Z38 ?_;refine pb_ 21 ?_;refine pb_ 22 ?_;refine pb_ 23 ?_;refine pb_ 24 ?_;refine pb_ 25 ?_;refine tb_ 26 rfl rfl hHeld Z38 ?_;refine oa_ 27 62 38 268435455 HT_ (fun K hK=>?_);refine goes_ Try.func51 (by kernel_rfl) rfl #[I L ((rd_T52 l0_4 x3_2).f1)] (by rfl) rfl rfl Z13 ?_;with_reducible refine (spec_Stride.calls ((rd_T52 l0_4 x3_2).f1) Xa _ A40.out).mono ?_
                rintro e w' ⟨rfl,⟨nd,rfl⟩⟩;refine ⟨_,rfl,?_⟩;refine hK.out _ _ ⟨bc_ Ka.out 0,bc_ Ka.out 1,bc_ Ka.out 2,bc_ Ka.out 3,bc_ Ka.out 4,bc_ Ka.out 5,bc_ Ja.out 0,bc_ Ja.out 1,bc_ Ja.out 2,bc_ Ja.out 3,bc_ Ja.out 4,(rc_ HB.out hw123_0:),(rc_ HB.out hw123_1:),(rc_ HB.out hw123_2:),(rc_ HB.out hw123_3:),(rc_ HB.out hw123_4:),(rc_ HB.out hw123_5:)⟩ (fun hHeld=>?_);clear hK K;refine nx_ (N:=some 62) ?_;refine pb_ 28 ?_;refine pb_ 29 ?_;refine pb_ 30 ?_;refine pb_ 31 ?_;refine pb_ 33 ?_;refine tb_ 32 rfl rfl hHeld Z38 ?_;refine tb_ 34 rfl rfl hHeld Z38 ?_;refine oa_ 35 70 38 68719476735 HT_ (fun K hK=>?_);refine goes_ Try.func49 (by kernel_rfl) rfl #[.agg #[I L ((rd_T52 l0_4 x3_2).f3.f0),I L ((rd_T52 l0_4 x3_2).f3.f1),I L ((rd_T52 l0_4 x3_2).f3.f2)],I L a0_0] (by rfl) rfl rfl Z13 ?_;with_reducible refine (spec_Narrow.calls ((rd_T52 l0_4 x3_2).f3.f0) ((rd_T52 l0_4 x3_2).f3.f1) ((rd_T52 l0_4 x3_2).f3.f2) a0_0 Kc _ A44.out).mono ?_
                rintro e w47 ⟨rfl, hb⟩; refine ⟨_, rfl, ?_⟩
                have n_ := an_ (blk_below (pk_ Ja.out) hb) <| an_ (blk_below (pk_ Ka.out) hb) <| D (below_step (pB_ HB.out) hb)
                clear Ja Ka HB;obtain ⟨Ja,Ka,HB⟩:=n_;refine hK.out _ _ ⟨bc_ Ka.out 0,bc_ Ka.out 1,bc_ Ka.out 2,bc_ Ka.out 3,bc_ Ka.out 4,bc_ Ka.out 5,bc_ Ja.out 0,bc_ Ja.out 1,bc_ Ja.out 2,bc_ Ja.out 3,bc_ Ja.out 4,(rc_ HB.out hw123_0:),(rc_ HB.out hw123_1:),(rc_ HB.out hw123_2:),(rc_ HB.out hw123_3:),(rc_ HB.out hw123_4:),(rc_ HB.out hw123_5:)⟩ (fun hHeld=>?_);clear hK K;refine nx_ (N:=some 70) ?_;refine pb_ 36 ?_;refine pb_ 37 ?_;refine done_ (done_of HT_.out (by kernel_rfl)) ?_
                try go_wp2
                go_meet
                case rel => exact ⟨_, (!Kc), Z61, H', ⟨by have := HJ1.out; have := HK2.out; first | omega | exact Nat.le_refl _⟩, ⟨pk_ Ja.out⟩, ⟨pk_ Ka.out⟩, ⟨pB_ HB.out⟩⟩
             ·rw [if_neg c36] at H
              exact absurd H (by simp)
            ·rw [if_neg c35] at H
             exact absurd H (by simp)
           ·rw [if_neg c33] at H
            have c33b0:decide (0 < x3_2)=false:=decide_eq_false c33;clear c33;obtain ⟨Kb,A480,H⟩:=bs_.mp H;(try dsimp only at H);have A48:=D A480;clear A480
            by_cases c49 : Kb = 0
            ·rw [if_pos c49] at H
             have c49b0 : (Kb == 0) = true := beq_iff_eq.mpr c49; have c49b1 : (Kb != 0) = false := bne_eq_false_iff_eq.mpr c49; clear c49; have H' := D H; clear H
             try go_wp2
             obtain ⟨w50,hq_⟩:∃ W_,W_=((((((w24.setCell ⟨Ma,0,none⟩ (I L ((rd_T52 l0_4 x3_2).f0))).setCell ⟨Ma,1,none⟩ (I L ((rd_T52 l0_4 x3_2).f1))).setCell ⟨Ma,2,none⟩ (.bool ((rd_T52 l0_4 x3_2).f2))).setCell ⟨Ma,3,none⟩ (I L ((rd_T52 l0_4 x3_2).f3.f0))).setCell ⟨Ma,4,none⟩ (I L ((rd_T52 l0_4 x3_2).f3.f1))).setCell ⟨Ma,5,none⟩ (I L ((rd_T52 l0_4 x3_2).f3.f2))):=⟨_,rfl⟩;have n0_:Aside0 (w50.heap[Oa]?=some (.cells #[I L a0_0,I L a0_1,I L a0_2,I L a0_3,Y (some ad121) l0_4.length c0_4] 34 (0,0))):=⟨by rw [hq_];exact pP_ Ja.out⟩;have n1_:Aside0 (w50.heap[Ma]?=some (.cells #[I L ((rd_T52 l0_4 x3_2).f0),I L ((rd_T52 l0_4 x3_2).f1),.bool ((rd_T52 l0_4 x3_2).f2),I L ((rd_T52 l0_4 x3_2).f3.f0),I L ((rd_T52 l0_4 x3_2).f3.f1),I L ((rd_T52 l0_4 x3_2).f3.f2)] 52 (0,0))):=⟨by rw [hq_];exact pP_ Ka.out⟩;have n2_:Aside0 (Below w.heap.size w w50):=⟨by rw [hq_];exact pB_ HB.out⟩;(try clear Ja);(try clear Ka);(try clear HB);(try rw [←hq_]);clear hq_;have Ja:=n0_;have Ka:=n1_;have HB:=n2_;clear n0_ n1_ n2_
             have n_ := an_ (blk_drew Ja.out) <| an_ (blk_drew Ka.out) <| D (below_drew1 HB.out)
             clear Ja Ka HB;obtain ⟨Ja,Ka,HB⟩:=n_;refine start_ (n:=38) (S:=fun w'=>w'.cell? ⟨Ma,0,none⟩=some (I L ((rd_T52 l0_4 x3_2).f0))∧w'.cell? ⟨Ma,1,none⟩=some (I L ((rd_T52 l0_4 x3_2).f1))∧w'.cell? ⟨Ma,2,none⟩=some (.bool ((rd_T52 l0_4 x3_2).f2))∧w'.cell? ⟨Ma,3,none⟩=some (I L ((rd_T52 l0_4 x3_2).f3.f0))∧w'.cell? ⟨Ma,4,none⟩=some (I L ((rd_T52 l0_4 x3_2).f3.f1))∧w'.cell? ⟨Ma,5,none⟩=some (I L ((rd_T52 l0_4 x3_2).f3.f2))) (ds:=[]) (bz 38 0) (by kernel_rfl) rfl (by kernel_rfl) ⟨bc_ Ka.out 0,bc_ Ka.out 1,bc_ Ka.out 2,bc_ Ka.out 3,bc_ Ka.out 4,bc_ Ka.out 5⟩ (fun hHeld=>?_);refine with_tabW spec_FairOk.tab7 spec_FairOk.bits7 (fun HT_ HW_=>?_);generalize w50.drew=w51 at Ja Ka HB hHeld ⊢;refine pb_ 0 ?_;refine tb_ 1 rfl rfl hHeld Z57 ?_;refine pb_ 2 ?_;refine pb_ 3 ?_;refine pb_ 4 ?_;refine tb_ 5 rfl rfl hHeld Z57 ?_;refine pb_ 6 ?_;refine pb_ 7 ?_;refine pb_ 8 ?_;refine pb_ 9 ?_;refine pb_ 10 ?_;refine pb_ 11 ?_;refine ob_ 12 ?_;refine ob_ 13 ?_;refine ob_ 14 ?_;refine ob_ 15 ?_;refine ob_ 16 ?_;refine ob_ 17 ?_;refine ob_ 18 ?_;refine ob_ 19 ?_;refine ob_ 20 ?_;refine ob_ 21 ?_;refine pb_ 22 ?_;refine pb_ 23 ?_;refine pb_ 24 ?_;refine pb_ 25 ?_;refine tb_ 26 rfl rfl hHeld Z57 ?_;refine oa_ 27 62 38 268435455 HT_ (fun K hK=>?_);refine goes_ Try.func51 (by kernel_rfl) rfl #[I L ((rd_T52 l0_4 x3_2).f1)] (by rfl) rfl rfl Z13 ?_;with_reducible refine (spec_Stride.calls ((rd_T52 l0_4 x3_2).f1) Kb _ A48.out).mono ?_
             rintro e w' ⟨rfl,⟨nd,rfl⟩⟩;refine ⟨_,rfl,?_⟩;refine hK.out _ _ ⟨bc_ Ka.out 0,bc_ Ka.out 1,bc_ Ka.out 2,bc_ Ka.out 3,bc_ Ka.out 4,bc_ Ka.out 5⟩ (fun hHeld=>?_);clear hK K;refine nx_ (N:=some 62) ?_;refine pb_ 28 ?_;refine pb_ 29 ?_;refine pb_ 30 ?_;refine ob_ 31 ?_;refine ob_ 32 ?_;refine ob_ 33 ?_;refine ob_ 34 ?_;refine ob_ 35 ?_;refine ob_ 36 ?_;refine pb_ 37 ?_;refine done_ (done_of HT_.out (by kernel_rfl)) ?_
             try go_wp2
             go_meet
             case rel => exact ⟨_, (true), Z61, H', ⟨by have := HJ1.out; have := HK2.out; first | omega | exact Nat.le_refl _⟩, ⟨pk_ Ja.out⟩, ⟨pk_ Ka.out⟩, ⟨pB_ HB.out⟩⟩
            ·rw [if_neg c49] at H
             have c49b0:(Kb == 0)=false:=beq_eq_false_iff_ne.mpr c49;have c49b1:(Kb != 0)=true:=bne_iff_ne.mpr c49;obtain ⟨Jo,A520,H⟩:=bs_.mp H;(try dsimp only at H);have A52:=D A520;clear A520;have H':=D H;clear H
             try go_wp2
             obtain ⟨w53,hq_⟩:∃ W_,W_=((((((w24.setCell ⟨Ma,0,none⟩ (I L ((rd_T52 l0_4 x3_2).f0))).setCell ⟨Ma,1,none⟩ (I L ((rd_T52 l0_4 x3_2).f1))).setCell ⟨Ma,2,none⟩ (.bool ((rd_T52 l0_4 x3_2).f2))).setCell ⟨Ma,3,none⟩ (I L ((rd_T52 l0_4 x3_2).f3.f0))).setCell ⟨Ma,4,none⟩ (I L ((rd_T52 l0_4 x3_2).f3.f1))).setCell ⟨Ma,5,none⟩ (I L ((rd_T52 l0_4 x3_2).f3.f2))):=⟨_,rfl⟩;have n0_:Aside0 (w53.heap[Oa]?=some (.cells #[I L a0_0,I L a0_1,I L a0_2,I L a0_3,Y (some ad121) l0_4.length c0_4] 34 (0,0))):=⟨by rw [hq_];exact pP_ Ja.out⟩;have n1_:Aside0 (w53.heap[Ma]?=some (.cells #[I L ((rd_T52 l0_4 x3_2).f0),I L ((rd_T52 l0_4 x3_2).f1),.bool ((rd_T52 l0_4 x3_2).f2),I L ((rd_T52 l0_4 x3_2).f3.f0),I L ((rd_T52 l0_4 x3_2).f3.f1),I L ((rd_T52 l0_4 x3_2).f3.f2)] 52 (0,0))):=⟨by rw [hq_];exact pP_ Ka.out⟩;have n2_:Aside0 (Below w.heap.size w w53):=⟨by rw [hq_];exact pB_ HB.out⟩;(try clear Ja);(try clear Ka);(try clear HB);(try rw [←hq_]);clear hq_;have Ja:=n0_;have Ka:=n1_;have HB:=n2_;clear n0_ n1_ n2_
             have n_ := an_ (blk_drew Ja.out) <| an_ (blk_drew Ka.out) <| D (below_drew1 HB.out)
             clear Ja Ka HB;obtain ⟨Ja,Ka,HB⟩:=n_;refine start_ (n:=38) (S:=fun w'=>w'.cell? ⟨Ma,0,none⟩=some (I L ((rd_T52 l0_4 x3_2).f0))∧w'.cell? ⟨Ma,1,none⟩=some (I L ((rd_T52 l0_4 x3_2).f1))∧w'.cell? ⟨Ma,2,none⟩=some (.bool ((rd_T52 l0_4 x3_2).f2))∧w'.cell? ⟨Ma,3,none⟩=some (I L ((rd_T52 l0_4 x3_2).f3.f0))∧w'.cell? ⟨Ma,4,none⟩=some (I L ((rd_T52 l0_4 x3_2).f3.f1))∧w'.cell? ⟨Ma,5,none⟩=some (I L ((rd_T52 l0_4 x3_2).f3.f2))∧w'.cell? ⟨Oa,0,none⟩=some (I L a0_0)∧w'.cell? ⟨Oa,1,none⟩=some (I L a0_1)∧w'.cell? ⟨Oa,2,none⟩=some (I L a0_2)∧w'.cell? ⟨Oa,3,none⟩=some (I L a0_3)∧w'.cell? ⟨Oa,4,none⟩=some (Y (some ad121) l0_4.length c0_4)) (ds:=[]) (bz 38 0) (by kernel_rfl) rfl (by kernel_rfl) ⟨bc_ Ka.out 0,bc_ Ka.out 1,bc_ Ka.out 2,bc_ Ka.out 3,bc_ Ka.out 4,bc_ Ka.out 5,bc_ Ja.out 0,bc_ Ja.out 1,bc_ Ja.out 2,bc_ Ja.out 3,bc_ Ja.out 4⟩ (fun hHeld=>?_);refine with_tabW spec_FairOk.tab7 spec_FairOk.bits7 (fun HT_ HW_=>?_);generalize w53.drew=w54 at Ja Ka HB hHeld ⊢;refine pb_ 0 ?_;refine tb_ 1 rfl rfl hHeld Z56 ?_;refine pb_ 2 ?_;refine pb_ 3 ?_;refine pb_ 4 ?_;refine tb_ 5 rfl rfl hHeld Z56 ?_;refine pb_ 6 ?_;refine pb_ 7 ?_;refine pb_ 8 ?_;refine pb_ 9 ?_;refine pb_ 10 ?_;refine pb_ 11 ?_;refine ob_ 12 ?_;refine ob_ 13 ?_;refine ob_ 14 ?_;refine ob_ 15 ?_;refine ob_ 16 ?_;refine ob_ 17 ?_;refine ob_ 18 ?_;refine ob_ 19 ?_;refine ob_ 20 ?_;refine ob_ 21 ?_;refine pb_ 22 ?_;refine pb_ 23 ?_;refine pb_ 24 ?_;refine pb_ 25 ?_;refine tb_ 26 rfl rfl hHeld Z56 ?_;refine oa_ 27 62 38 268435455 HT_ (fun K hK=>?_);refine goes_ Try.func51 (by kernel_rfl) rfl #[I L ((rd_T52 l0_4 x3_2).f1)] (by rfl) rfl rfl Z13 ?_;with_reducible refine (spec_Stride.calls ((rd_T52 l0_4 x3_2).f1) Kb _ A48.out).mono ?_
             rintro e w' ⟨rfl,⟨nd,rfl⟩⟩;refine ⟨_,rfl,?_⟩;refine hK.out _ _ ⟨bc_ Ka.out 0,bc_ Ka.out 1,bc_ Ka.out 2,bc_ Ka.out 3,bc_ Ka.out 4,bc_ Ka.out 5,bc_ Ja.out 0,bc_ Ja.out 1,bc_ Ja.out 2,bc_ Ja.out 3,bc_ Ja.out 4⟩ (fun hHeld=>?_);clear hK K;refine nx_ (N:=some 62) ?_;refine pb_ 28 ?_;refine pb_ 29 ?_;refine pb_ 30 ?_;refine pb_ 31 ?_;refine pb_ 33 ?_;refine tb_ 32 rfl rfl hHeld Z56 ?_;refine tb_ 34 rfl rfl hHeld Z56 ?_;refine oa_ 35 70 38 68719476735 HT_ (fun K hK=>?_);refine goes_ Try.func49 (by kernel_rfl) rfl #[.agg #[I L ((rd_T52 l0_4 x3_2).f3.f0),I L ((rd_T52 l0_4 x3_2).f3.f1),I L ((rd_T52 l0_4 x3_2).f3.f2)],I L a0_0] (by rfl) rfl rfl Z13 ?_;with_reducible refine (spec_Narrow.calls ((rd_T52 l0_4 x3_2).f3.f0) ((rd_T52 l0_4 x3_2).f3.f1) ((rd_T52 l0_4 x3_2).f3.f2) a0_0 Jo _ A52.out).mono ?_
             rintro e w55 ⟨rfl, hb⟩; refine ⟨_, rfl, ?_⟩
             have n_ := an_ (blk_below (pk_ Ja.out) hb) <| an_ (blk_below (pk_ Ka.out) hb) <| D (below_step (pB_ HB.out) hb)
             clear Ja Ka HB;obtain ⟨Ja,Ka,HB⟩:=n_;refine hK.out _ _ ⟨bc_ Ka.out 0,bc_ Ka.out 1,bc_ Ka.out 2,bc_ Ka.out 3,bc_ Ka.out 4,bc_ Ka.out 5,bc_ Ja.out 0,bc_ Ja.out 1,bc_ Ja.out 2,bc_ Ja.out 3,bc_ Ja.out 4⟩ (fun hHeld=>?_);clear hK K;refine nx_ (N:=some 70) ?_;refine pb_ 36 ?_;refine pb_ 37 ?_;refine done_ (done_of HT_.out (by kernel_rfl)) ?_
             try go_wp2
             go_meet
             case rel => exact ⟨_, (!Jo), Z61, H', ⟨by have := HJ1.out; have := HK2.out; first | omega | exact Nat.le_refl _⟩, ⟨pk_ Ja.out⟩, ⟨pk_ Ka.out⟩, ⟨pB_ HB.out⟩⟩
        case rest =>
         clear HC22
         try clear p1
         try clear q1
         try clear hx1
         try clear p2
         try clear c3
         try clear c4
         try clear c5
         try clear p6
         try clear p12
         try clear q12
         try clear hx12
         try clear c30
         try clear c30b0
         try clear c33
         try clear c33b0
         try clear c35
         try clear c35b0
         try clear c36
         try clear c36b0
         try clear c37
         try clear c37b0
         try clear c41
         try clear c41b0
         try clear c41b1
         try clear c49
         try clear c49b0
         try clear c49b1
         try clear c51
         try clear hx123_0 hx123_1 hx123_2 hx123_3 hx123_4 hx123_5
         try clear p123
         try clear q123
         obtain ⟨kq, Jc, rfl, HA, HJ21, Ja, Ka, HB⟩ := hcut
         cases kq with
         | zero => exact absurd HA.out (by simp [spec_FairOk.j2])
         | succ kj21 =>
          have H := HA.out; clear HA; simp only [spec_FairOk.j2] at H
          by_cases c56 : Jc = true
          ·subst c56
           rw [if_pos rfl] at H; obtain rfl := Option.some.inj H
           go_wp2
           go_ret; exact ⟨er_, pB_ HB.out⟩
          ·replace c56 := Bool.eq_false_iff.mpr c56
           subst c56;rw [if_neg (show ¬ (false=true) by decide)] at H;obtain ⟨Mb,A570,H⟩:=bs_.mp H;(try dsimp only at H);have A57:=D A570;clear A570;obtain ⟨Ob,A580,H⟩:=bs_.mp H;(try dsimp only at H);have A58:=D A580;clear A580;obtain ⟨Ub,A590,H⟩:=bs_.mp H;(try dsimp only at H);have A59:=D A590;clear A590
           by_cases c60 : Mb > (wrap64 (Ob + (wrap64 (Ub * 2000))))
           ·rw [if_pos c60] at H
            have c60b0 : decide ((wrap64 (Ob + (wrap64 (Ub * 2000)))) < Mb) = true := decide_eq_true c60; clear c60; obtain rfl := Option.some.inj H
            try go_wp2
            have n_ := an_ (blk_drew Ja.out) <| an_ (blk_drew Ka.out) <| D (below_drew1 HB.out)
            clear Ja Ka HB;obtain ⟨Ja,Ka,HB⟩:=n_;refine start_ (n:=25) (S:=fun w'=>w'.cell? ⟨Ma,0,none⟩=some (I L ((rd_T52 l0_4 x3_2).f0))∧w'.cell? ⟨Ma,1,none⟩=some (I L ((rd_T52 l0_4 x3_2).f1))∧w'.cell? ⟨Ma,2,none⟩=some (.bool ((rd_T52 l0_4 x3_2).f2))∧w'.cell? ⟨Ma,3,none⟩=some (I L ((rd_T52 l0_4 x3_2).f3.f0))∧w'.cell? ⟨Ma,4,none⟩=some (I L ((rd_T52 l0_4 x3_2).f3.f1))∧w'.cell? ⟨Ma,5,none⟩=some (I L ((rd_T52 l0_4 x3_2).f3.f2))∧w'.cell? ⟨Oa,0,none⟩=some (I L a0_0)∧w'.cell? ⟨Oa,1,none⟩=some (I L a0_1)∧w'.cell? ⟨Oa,2,none⟩=some (I L a0_2)∧w'.cell? ⟨Oa,3,none⟩=some (I L a0_3)∧w'.cell? ⟨Oa,4,none⟩=some (Y (some ad121) l0_4.length c0_4)) (ds:=[]) (bz 25 0) (by kernel_rfl) rfl (by kernel_rfl) ⟨bc_ Ka.out 0,bc_ Ka.out 1,bc_ Ka.out 2,bc_ Ka.out 3,bc_ Ka.out 4,bc_ Ka.out 5,bc_ Ja.out 0,bc_ Ja.out 1,bc_ Ja.out 2,bc_ Ja.out 3,bc_ Ja.out 4⟩ (fun hHeld=>?_);refine with_tabW spec_FairOk.tab9 spec_FairOk.bits9 (fun HT_ HW_=>?_);generalize wc.drew=w61 at Ja Ka HB hHeld ⊢;refine pb_ 0 ?_;refine pb_ 3 ?_;refine pb_ 6 ?_;refine tb_ 1 rfl rfl hHeld Z56 ?_;refine tb_ 4 rfl rfl hHeld Z56 ?_;refine tb_ 7 rfl rfl hHeld Z56 ?_;refine oa_ 2 75 25 223 HT_ (fun K hK=>?_);refine goes_ Try.func50 (by kernel_rfl) rfl #[.agg #[I L ((rd_T52 l0_4 x3_2).f3.f0),I L ((rd_T52 l0_4 x3_2).f3.f1),I L ((rd_T52 l0_4 x3_2).f3.f2)]] (by rfl) rfl rfl Z13 ?_;with_reducible refine (spec_VecTop.calls ((rd_T52 l0_4 x3_2).f3.f0) ((rd_T52 l0_4 x3_2).f3.f1) ((rd_T52 l0_4 x3_2).f3.f2) Mb _ A57.out).mono ?_
            rintro e w62 ⟨rfl, hb⟩; refine ⟨_, rfl, ?_⟩
            have n_ := an_ (blk_below (pk_ Ja.out) hb) <| an_ (blk_below (pk_ Ka.out) hb) <| D (below_step (pB_ HB.out) hb)
            clear Ja Ka HB;obtain ⟨Ja,Ka,HB⟩:=n_;refine hK.out _ _ ⟨bc_ Ka.out 0,bc_ Ka.out 1,bc_ Ka.out 2,bc_ Ka.out 3,bc_ Ka.out 4,bc_ Ka.out 5,bc_ Ja.out 0,bc_ Ja.out 1,bc_ Ja.out 2,bc_ Ja.out 3,bc_ Ja.out 4⟩ (fun hHeld=>?_);clear hK K;refine nx_ (N:=some 75) ?_;refine oa_ 5 78 25 255 HT_ (fun K hK=>?_);refine goes_ Try.func50 (by kernel_rfl) rfl #[.agg #[I L a0_1,I L a0_2,I L a0_3]] (by rfl) rfl rfl Z13 ?_;with_reducible refine (spec_VecTop.calls a0_1 a0_2 a0_3 Ob _ A58.out).mono ?_
            rintro e w63 ⟨rfl, hb⟩; refine ⟨_, rfl, ?_⟩
            have n_ := an_ (blk_below (pk_ Ja.out) hb) <| an_ (blk_below (pk_ Ka.out) hb) <| D (below_step (pB_ HB.out) hb)
            clear Ja Ka HB;obtain ⟨Ja,Ka,HB⟩:=n_;refine hK.out _ _ ⟨bc_ Ka.out 0,bc_ Ka.out 1,bc_ Ka.out 2,bc_ Ka.out 3,bc_ Ka.out 4,bc_ Ka.out 5,bc_ Ja.out 0,bc_ Ja.out 1,bc_ Ja.out 2,bc_ Ja.out 3,bc_ Ja.out 4⟩ (fun hHeld=>?_);clear hK K;refine nx_ (N:=some 78) ?_;refine oa_ 8 81 25 511 HT_ (fun K hK=>?_);refine goes_ Try.func51 (by kernel_rfl) rfl #[I L ((rd_T52 l0_4 x3_2).f1)] (by rfl) rfl rfl Z13 ?_;with_reducible refine (spec_Stride.calls ((rd_T52 l0_4 x3_2).f1) Ub _ A59.out).mono ?_
            rintro e w' ⟨rfl,⟨nd,rfl⟩⟩;refine ⟨_,rfl,?_⟩;refine hK.out _ _ ⟨bc_ Ka.out 0,bc_ Ka.out 1,bc_ Ka.out 2,bc_ Ka.out 3,bc_ Ka.out 4,bc_ Ka.out 5,bc_ Ja.out 0,bc_ Ja.out 1,bc_ Ja.out 2,bc_ Ja.out 3,bc_ Ja.out 4⟩ (fun hHeld=>?_);clear hK K;refine nx_ (N:=some 81) ?_;refine pb_ 9 ?_;refine pb_ 10 ?_;refine pb_ 11 ?_;refine pb_ 12 ?_;refine ob_ 13 ?_;refine ob_ 14 ?_;refine ob_ 15 ?_;refine ob_ 16 ?_;refine ob_ 17 ?_;refine ob_ 18 ?_;refine ob_ 19 ?_;refine ob_ 20 ?_;refine ob_ 21 ?_;refine ob_ 22 ?_;refine ob_ 23 ?_;refine pb_ 24 ?_;refine done_ (done_of HT_.out (by kernel_rfl)) ?_
            try go_wp2
            go_ret; exact ⟨er_, pB_ HB.out⟩
           ·rw [if_neg c60] at H
            have c60b0 : decide ((wrap64 (Ob + (wrap64 (Ub * 2000)))) < Mb) = false := decide_eq_false c60; clear c60
            by_cases c64 : ((rd_T52 l0_4 x3_2).f2) = true
            ·rw [if_pos c64] at H
             have c64b0:((rd_T52 l0_4 x3_2).f2)=true:=c64;clear c64;obtain ⟨Mc,A650,H⟩:=bs_.mp H;(try dsimp only at H);have A65:=D A650;clear A650;obtain ⟨Oc,A660,H⟩:=bs_.mp H;(try dsimp only at H);have A66:=D A660;clear A660;have HU67:=D H;clear H
             try go_wp2
             have n_ := an_ (blk_drew Ja.out) <| an_ (blk_drew Ka.out) <| D (below_drew1 HB.out)
             clear Ja Ka HB;obtain ⟨Ja,Ka,HB⟩:=n_;refine start_ (n:=25) (S:=fun w'=>w'.cell? ⟨Ma,0,none⟩=some (I L ((rd_T52 l0_4 x3_2).f0))∧w'.cell? ⟨Ma,1,none⟩=some (I L ((rd_T52 l0_4 x3_2).f1))∧w'.cell? ⟨Ma,2,none⟩=some (.bool ((rd_T52 l0_4 x3_2).f2))∧w'.cell? ⟨Ma,3,none⟩=some (I L ((rd_T52 l0_4 x3_2).f3.f0))∧w'.cell? ⟨Ma,4,none⟩=some (I L ((rd_T52 l0_4 x3_2).f3.f1))∧w'.cell? ⟨Ma,5,none⟩=some (I L ((rd_T52 l0_4 x3_2).f3.f2))∧w'.cell? ⟨Oa,0,none⟩=some (I L a0_0)∧w'.cell? ⟨Oa,1,none⟩=some (I L a0_1)∧w'.cell? ⟨Oa,2,none⟩=some (I L a0_2)∧w'.cell? ⟨Oa,3,none⟩=some (I L a0_3)∧w'.cell? ⟨Oa,4,none⟩=some (Y (some ad121) l0_4.length c0_4)) (ds:=[]) (bz 25 0) (by kernel_rfl) rfl (by kernel_rfl) ⟨bc_ Ka.out 0,bc_ Ka.out 1,bc_ Ka.out 2,bc_ Ka.out 3,bc_ Ka.out 4,bc_ Ka.out 5,bc_ Ja.out 0,bc_ Ja.out 1,bc_ Ja.out 2,bc_ Ja.out 3,bc_ Ja.out 4⟩ (fun hHeld=>?_);refine with_tabW spec_FairOk.tab9 spec_FairOk.bits9 (fun HT_ HW_=>?_);generalize wc.drew=w68 at Ja Ka HB hHeld ⊢;refine pb_ 0 ?_;refine pb_ 3 ?_;refine pb_ 6 ?_;refine tb_ 1 rfl rfl hHeld Z56 ?_;refine tb_ 4 rfl rfl hHeld Z56 ?_;refine tb_ 7 rfl rfl hHeld Z56 ?_;refine oa_ 2 75 25 223 HT_ (fun K hK=>?_);refine goes_ Try.func50 (by kernel_rfl) rfl #[.agg #[I L ((rd_T52 l0_4 x3_2).f3.f0),I L ((rd_T52 l0_4 x3_2).f3.f1),I L ((rd_T52 l0_4 x3_2).f3.f2)]] (by rfl) rfl rfl Z13 ?_;with_reducible refine (spec_VecTop.calls ((rd_T52 l0_4 x3_2).f3.f0) ((rd_T52 l0_4 x3_2).f3.f1) ((rd_T52 l0_4 x3_2).f3.f2) Mb _ A57.out).mono ?_
             rintro e w69 ⟨rfl, hb⟩; refine ⟨_, rfl, ?_⟩
             have n_ := an_ (blk_below (pk_ Ja.out) hb) <| an_ (blk_below (pk_ Ka.out) hb) <| D (below_step (pB_ HB.out) hb)
             clear Ja Ka HB;obtain ⟨Ja,Ka,HB⟩:=n_;refine hK.out _ _ ⟨bc_ Ka.out 0,bc_ Ka.out 1,bc_ Ka.out 2,bc_ Ka.out 3,bc_ Ka.out 4,bc_ Ka.out 5,bc_ Ja.out 0,bc_ Ja.out 1,bc_ Ja.out 2,bc_ Ja.out 3,bc_ Ja.out 4⟩ (fun hHeld=>?_);clear hK K;refine nx_ (N:=some 75) ?_;refine oa_ 5 78 25 255 HT_ (fun K hK=>?_);refine goes_ Try.func50 (by kernel_rfl) rfl #[.agg #[I L a0_1,I L a0_2,I L a0_3]] (by rfl) rfl rfl Z13 ?_;with_reducible refine (spec_VecTop.calls a0_1 a0_2 a0_3 Ob _ A58.out).mono ?_
             rintro e w70 ⟨rfl, hb⟩; refine ⟨_, rfl, ?_⟩
             have n_ := an_ (blk_below (pk_ Ja.out) hb) <| an_ (blk_below (pk_ Ka.out) hb) <| D (below_step (pB_ HB.out) hb)
             clear Ja Ka HB;obtain ⟨Ja,Ka,HB⟩:=n_;refine hK.out _ _ ⟨bc_ Ka.out 0,bc_ Ka.out 1,bc_ Ka.out 2,bc_ Ka.out 3,bc_ Ka.out 4,bc_ Ka.out 5,bc_ Ja.out 0,bc_ Ja.out 1,bc_ Ja.out 2,bc_ Ja.out 3,bc_ Ja.out 4⟩ (fun hHeld=>?_);clear hK K;refine nx_ (N:=some 78) ?_;refine oa_ 8 81 25 511 HT_ (fun K hK=>?_);refine goes_ Try.func51 (by kernel_rfl) rfl #[I L ((rd_T52 l0_4 x3_2).f1)] (by rfl) rfl rfl Z13 ?_;with_reducible refine (spec_Stride.calls ((rd_T52 l0_4 x3_2).f1) Ub _ A59.out).mono ?_
             rintro e w' ⟨rfl,⟨nd,rfl⟩⟩;refine ⟨_,rfl,?_⟩;refine hK.out _ _ ⟨bc_ Ka.out 0,bc_ Ka.out 1,bc_ Ka.out 2,bc_ Ka.out 3,bc_ Ka.out 4,bc_ Ka.out 5,bc_ Ja.out 0,bc_ Ja.out 1,bc_ Ja.out 2,bc_ Ja.out 3,bc_ Ja.out 4⟩ (fun hHeld=>?_);clear hK K;refine nx_ (N:=some 81) ?_;refine pb_ 9 ?_;refine pb_ 10 ?_;refine pb_ 11 ?_;refine pb_ 12 ?_;refine pb_ 13 ?_;refine tb_ 14 rfl rfl hHeld Z56 ?_;refine pb_ 15 ?_;refine pb_ 16 ?_;refine pb_ 19 ?_;refine tb_ 17 rfl rfl hHeld Z56 ?_;refine tb_ 20 rfl rfl hHeld Z56 ?_;refine oa_ 18 91 25 2097151 HT_ (fun K hK=>?_);refine goes_ Try.func50 (by kernel_rfl) rfl #[.agg #[I L ((rd_T52 l0_4 x3_2).f3.f0),I L ((rd_T52 l0_4 x3_2).f3.f1),I L ((rd_T52 l0_4 x3_2).f3.f2)]] (by rfl) rfl rfl Z13 ?_;with_reducible refine (spec_VecTop.calls ((rd_T52 l0_4 x3_2).f3.f0) ((rd_T52 l0_4 x3_2).f3.f1) ((rd_T52 l0_4 x3_2).f3.f2) Mc _ A65.out).mono ?_
             rintro e w71 ⟨rfl, hb⟩; refine ⟨_, rfl, ?_⟩
             have n_ := an_ (blk_below (pk_ Ja.out) hb) <| an_ (blk_below (pk_ Ka.out) hb) <| D (below_step (pB_ HB.out) hb)
             clear Ja Ka HB;obtain ⟨Ja,Ka,HB⟩:=n_;refine hK.out _ _ ⟨bc_ Ka.out 0,bc_ Ka.out 1,bc_ Ka.out 2,bc_ Ka.out 3,bc_ Ka.out 4,bc_ Ka.out 5,bc_ Ja.out 0,bc_ Ja.out 1,bc_ Ja.out 2,bc_ Ja.out 3,bc_ Ja.out 4⟩ (fun hHeld=>?_);clear hK K;refine nx_ (N:=some 91) ?_;refine oa_ 21 94 25 4194303 HT_ (fun K hK=>?_);refine goes_ Try.func50 (by kernel_rfl) rfl #[.agg #[I L a0_1,I L a0_2,I L a0_3]] (by rfl) rfl rfl Z13 ?_;with_reducible refine (spec_VecTop.calls a0_1 a0_2 a0_3 Oc _ A66.out).mono ?_
             rintro e w72 ⟨rfl, hb⟩; refine ⟨_, rfl, ?_⟩
             have n_ := an_ (blk_below (pk_ Ja.out) hb) <| an_ (blk_below (pk_ Ka.out) hb) <| D (below_step (pB_ HB.out) hb)
             clear Ja Ka HB;obtain ⟨Ja,Ka,HB⟩:=n_;refine hK.out _ _ ⟨bc_ Ka.out 0,bc_ Ka.out 1,bc_ Ka.out 2,bc_ Ka.out 3,bc_ Ka.out 4,bc_ Ka.out 5,bc_ Ja.out 0,bc_ Ja.out 1,bc_ Ja.out 2,bc_ Ja.out 3,bc_ Ja.out 4⟩ (fun hHeld=>?_);clear hK K;refine nx_ (N:=some 94) ?_;refine pb_ 22 ?_;refine pb_ 23 ?_;refine pb_ 24 ?_;refine done_ (done_of HT_.out (by kernel_rfl)) ?_
             go_upto_if 97 with (fail)
             have H := HU67.out; clear HU67
             by_cases c73 : Mc < Oc
             ·rw [if_pos c73] at H
              have c73b0:decide (Mc < Oc)=true:=decide_eq_true c73;clear c73;refine rw_ c73b0 ?_;obtain rfl:=Option.some.inj H
              go_wp2
              go_ret; exact ⟨er_, pB_ HB.out⟩
             ·rw [if_neg c73] at H
              have c73b0:decide (Mc < Oc)=false:=decide_eq_false c73;clear c73;refine rw_ c73b0 ?_;have H':=D H;clear H
              go_wp2
              go_roundg kj21
              case measure => have := HJ1.out; have := HK2.out; have := HJ21.out; omega
              case rel => exact ⟨(wrap64 (x3_2 + 1)), Z61, H', ⟨by have := HJ1.out; have := HK2.out; have := HJ21.out; omega⟩, ⟨pk_ Ja.out⟩, ⟨pB_ HB.out⟩⟩
            ·rw [if_neg c64] at H
             have c64b0 : ((rd_T52 l0_4 x3_2).f2) = false := by simpa using c64
             clear c64; have H' := D H; clear H
             try go_wp2
             have n_ := an_ (blk_drew Ja.out) <| an_ (blk_drew Ka.out) <| D (below_drew1 HB.out)
             clear Ja Ka HB;obtain ⟨Ja,Ka,HB⟩:=n_;refine start_ (n:=25) (S:=fun w'=>w'.cell? ⟨Ma,0,none⟩=some (I L ((rd_T52 l0_4 x3_2).f0))∧w'.cell? ⟨Ma,1,none⟩=some (I L ((rd_T52 l0_4 x3_2).f1))∧w'.cell? ⟨Ma,2,none⟩=some (.bool ((rd_T52 l0_4 x3_2).f2))∧w'.cell? ⟨Ma,3,none⟩=some (I L ((rd_T52 l0_4 x3_2).f3.f0))∧w'.cell? ⟨Ma,4,none⟩=some (I L ((rd_T52 l0_4 x3_2).f3.f1))∧w'.cell? ⟨Ma,5,none⟩=some (I L ((rd_T52 l0_4 x3_2).f3.f2))∧w'.cell? ⟨Oa,0,none⟩=some (I L a0_0)∧w'.cell? ⟨Oa,1,none⟩=some (I L a0_1)∧w'.cell? ⟨Oa,2,none⟩=some (I L a0_2)∧w'.cell? ⟨Oa,3,none⟩=some (I L a0_3)∧w'.cell? ⟨Oa,4,none⟩=some (Y (some ad121) l0_4.length c0_4)) (ds:=[]) (bz 25 0) (by kernel_rfl) rfl (by kernel_rfl) ⟨bc_ Ka.out 0,bc_ Ka.out 1,bc_ Ka.out 2,bc_ Ka.out 3,bc_ Ka.out 4,bc_ Ka.out 5,bc_ Ja.out 0,bc_ Ja.out 1,bc_ Ja.out 2,bc_ Ja.out 3,bc_ Ja.out 4⟩ (fun hHeld=>?_);refine with_tabW spec_FairOk.tab9 spec_FairOk.bits9 (fun HT_ HW_=>?_);generalize wc.drew=w74 at Ja Ka HB hHeld ⊢;refine pb_ 0 ?_;refine pb_ 3 ?_;refine pb_ 6 ?_;refine tb_ 1 rfl rfl hHeld Z56 ?_;refine tb_ 4 rfl rfl hHeld Z56 ?_;refine tb_ 7 rfl rfl hHeld Z56 ?_;refine oa_ 2 75 25 223 HT_ (fun K hK=>?_);refine goes_ Try.func50 (by kernel_rfl) rfl #[.agg #[I L ((rd_T52 l0_4 x3_2).f3.f0),I L ((rd_T52 l0_4 x3_2).f3.f1),I L ((rd_T52 l0_4 x3_2).f3.f2)]] (by rfl) rfl rfl Z13 ?_;with_reducible refine (spec_VecTop.calls ((rd_T52 l0_4 x3_2).f3.f0) ((rd_T52 l0_4 x3_2).f3.f1) ((rd_T52 l0_4 x3_2).f3.f2) Mb _ A57.out).mono ?_
             rintro e w75 ⟨rfl, hb⟩; refine ⟨_, rfl, ?_⟩
             have n_ := an_ (blk_below (pk_ Ja.out) hb) <| an_ (blk_below (pk_ Ka.out) hb) <| D (below_step (pB_ HB.out) hb)
             clear Ja Ka HB;obtain ⟨Ja,Ka,HB⟩:=n_;refine hK.out _ _ ⟨bc_ Ka.out 0,bc_ Ka.out 1,bc_ Ka.out 2,bc_ Ka.out 3,bc_ Ka.out 4,bc_ Ka.out 5,bc_ Ja.out 0,bc_ Ja.out 1,bc_ Ja.out 2,bc_ Ja.out 3,bc_ Ja.out 4⟩ (fun hHeld=>?_);clear hK K;refine nx_ (N:=some 75) ?_;refine oa_ 5 78 25 255 HT_ (fun K hK=>?_);refine goes_ Try.func50 (by kernel_rfl) rfl #[.agg #[I L a0_1,I L a0_2,I L a0_3]] (by rfl) rfl rfl Z13 ?_;with_reducible refine (spec_VecTop.calls a0_1 a0_2 a0_3 Ob _ A58.out).mono ?_
             rintro e w76 ⟨rfl, hb⟩; refine ⟨_, rfl, ?_⟩
             have n_ := an_ (blk_below (pk_ Ja.out) hb) <| an_ (blk_below (pk_ Ka.out) hb) <| D (below_step (pB_ HB.out) hb)
             clear Ja Ka HB;obtain ⟨Ja,Ka,HB⟩:=n_;refine hK.out _ _ ⟨bc_ Ka.out 0,bc_ Ka.out 1,bc_ Ka.out 2,bc_ Ka.out 3,bc_ Ka.out 4,bc_ Ka.out 5,bc_ Ja.out 0,bc_ Ja.out 1,bc_ Ja.out 2,bc_ Ja.out 3,bc_ Ja.out 4⟩ (fun hHeld=>?_);clear hK K;refine nx_ (N:=some 78) ?_;refine oa_ 8 81 25 511 HT_ (fun K hK=>?_);refine goes_ Try.func51 (by kernel_rfl) rfl #[I L ((rd_T52 l0_4 x3_2).f1)] (by rfl) rfl rfl Z13 ?_;with_reducible refine (spec_Stride.calls ((rd_T52 l0_4 x3_2).f1) Ub _ A59.out).mono ?_
             rintro e w' ⟨rfl,⟨nd,rfl⟩⟩;refine ⟨_,rfl,?_⟩;refine hK.out _ _ ⟨bc_ Ka.out 0,bc_ Ka.out 1,bc_ Ka.out 2,bc_ Ka.out 3,bc_ Ka.out 4,bc_ Ka.out 5,bc_ Ja.out 0,bc_ Ja.out 1,bc_ Ja.out 2,bc_ Ja.out 3,bc_ Ja.out 4⟩ (fun hHeld=>?_);clear hK K;refine nx_ (N:=some 81) ?_;refine pb_ 9 ?_;refine pb_ 10 ?_;refine pb_ 11 ?_;refine pb_ 12 ?_;refine pb_ 13 ?_;refine tb_ 14 rfl rfl hHeld Z56 ?_;refine pb_ 15 ?_;refine ob_ 16 ?_;refine ob_ 17 ?_;refine ob_ 18 ?_;refine ob_ 19 ?_;refine ob_ 20 ?_;refine ob_ 21 ?_;refine ob_ 22 ?_;refine pb_ 23 ?_;refine pb_ 24 ?_;refine done_ (done_of HT_.out (by kernel_rfl)) ?_
             try go_wp2
             go_roundg kj21
             case measure => have := HJ1.out; have := HK2.out; have := HJ21.out; omega
             case rel => exact ⟨(wrap64 (x3_2 + 1)), Z61, H', ⟨by have := HJ1.out; have := HK2.out; have := HJ21.out; omega⟩, ⟨pk_ Ja.out⟩, ⟨pB_ HB.out⟩⟩
       ·rw [if_neg c21] at H
        exact absurd H (by simp)
      ·rw [if_neg c20] at H
       have c20b0 : decide (x3_2 < (l0_4.length : Int)) = false := decide_eq_false c20; clear c20; obtain rfl := Option.some.inj H; obtain ⟨Us, Xs, Ju, Ku, Mu, Ou, Uu, Xu, Jv, Kv⟩ := cells5 Ja.out
       go_wp2
       go_ret; exact ⟨er_, pB_ HB.out⟩

end Go.Proofs.Ytolphjnajopknac.PFnExactTreeWake
