-- by a program of this session's, over the kit's words
import Derived.Test.YtolphjnajopknabPZFnExactTreeRest
import Derived.Test.YtolphjnajopknabPFnExactTreeRestx0
import Derived.Test.YtolphjnajopknabPFnExactTreeRestx2
namespace Go.Proofs.Ytolphjnajopknab.PFnExactTreeRest
open Go.RowKit Go.Proofs.YtolphjnajopknabW.PrintWords Go.Proofs.YtolphjnajopknabW.PrintLast Go.Proofs.YtolphjnajopknabW.PrintMore Go.Proofs.YtolphjnajopknabV Go.Proofs.Ytolphjnajopknab.ZFnExactTreeRest
open Go.Value renaming int → I, slice → Y
open Go.IntKind renaming i64 → L
open Aside0 renaming mk → D
open Option renaming bind_eq_some_iff → bs_
attribute [local go_sem] max2_int min2_int max_two min_two max_three min_three max_four min_four   -- for this text's walks alone
set_option linter.unusedVariables false
set_option linter.unusedSimpArgs false

/-! ### spec_l20At: function 14 -/
def spec_l20At.l0 : Nat → Int → Int → Int → Int → Int → Int → List (S70) → List (S50) → Option (Int)
 | 0, _, _, _, _, _, _, _, _ => none
 | k + 1,x1,x5,x153000,x153001,x153002,x153003,x153004,x153005=>if x5 < (x153005.length:Int) then (if 0≤x5 then (if ((rd_T50 x153005 x5).f0)=x1 then (some x5) else (spec_l20At.l0 k x1 (wrap64 (x5 + 1)) x153000 x153001 x153002 x153003 x153004 x153005)) else (none)) else (some (-1))
def spec_l20At.f (k : Nat) (a0_0 a0_1 a0_2 a0_3 : Int) (l0_4 : List (S70)) (l0_5 : List (S50)) (a1 : Int) : Option (Int) := spec_l20At.l0 k a1 0 a0_0 a0_1 a0_2 a0_3 l0_4 l0_5
set_option maxHeartbeats 8000000 in
set_option maxRecDepth 100000 in
theorem spec_l20At.calls (k : Nat) (a0_0 a0_1 a0_2 a0_3 : Int) (A0_4 : Option Addr) (c0_4 : Nat) (l0_4 : List (S70)) (A0_5 : Option Addr) (c0_5 : Nat) (l0_5 : List (S50)) (a1 r : Int) (w : World) (hr0_4 : Kd.C k70 w A0_4 l0_4.length l0_4) (hc0_4 : l0_4.length ≤ c0_4) (hr0_5 : Kd.C k50 w A0_5 l0_5.length l0_5) (hc0_5 : l0_5.length ≤ c0_5) (h : spec_l20At.f k a0_0 a0_1 a0_2 a0_3 l0_4 l0_5 a1 = some r) :
  Calls Try.prog 14 #[.agg #[I L a0_0,I L a0_1,I L a0_2,I L a0_3,Y A0_4 l0_4.length c0_4,Y A0_5 l0_5.length c0_5],I L a1] w fun e w'=>e=.returned (I L r)∧Below w.heap.size w w':=by
 have hu37 := Try.underlying37
 have HR0_4 := D hr0_4
 have HC0_4 := D hc0_4
 clear hr0_4 hc0_4
 have HR0_5 := D hr0_5
 have HC0_5 := D hc0_5
 clear hr0_5 hc0_5
 have HB := D (Below.refl w.heap.size w)
 have H : (spec_l20At.l0 k a1 0 a0_0 a0_1 a0_2 a0_3 l0_4 l0_5) = some r := h
 clear h
 have H' := D H
 clear H
 go_enter Try.func14, Try.ntmps14
 go_wp2_with (first|((with_reducible refine gate_dst (N:=2) rfl ?_);refine bx_ (N:=2) (cs:=#[I L a0_0,I L a0_1,I L a0_2,I L a0_3,Y A0_4 l0_4.length c0_4,Y A0_5 l0_5.length c0_5]) (t:=37) ?_;intro gb152 hg w3 hbox hb;have n_:=an_ (below_step (pB_ HB.out) hb)<|an_ (hbox)<|an_ (bg_ hg (pB_ HB.out):w.heap.size≤gb152)<|D (bg_ hg (pB_ HB.out):w.heap.size≤gb152);clear HB;obtain ⟨HB,BK152,GW152,GE152⟩:=n_;clear hb hbox hg))
 go_loopg [5] k (fun kq v5 w'=>∃ (x5_1:Int),v5=I L x5_1∧Aside0 (spec_l20At.l0 kq a1 x5_1 a0_0 a0_1 a0_2 a0_3 l0_4 l0_5=some r)∧Aside0 (kq≤k)∧Aside0 (w'.heap[gb152]?=some (.cells #[I L a0_0,I L a0_1,I L a0_2,I L a0_3,(Y A0_4 l0_4.length c0_4),(Y A0_5 l0_5.length c0_5)] 37 (0,0)))∧Aside0 (Below w.heap.size w w'))
 case atStart => exact ⟨(0), Z48, H', ⟨Nat.le_refl _⟩, ⟨pk_ BK152.out⟩, ⟨pB_ HB.out⟩⟩
 case round =>
  clear H'
  try clear c1
  try clear p2
  obtain ⟨x5_1, rfl, HA, HK1, BK152, HB⟩ := hrel
  cases gk with
  | zero => exact absurd HA.out (by simp [spec_l20At.l0])
  | succ k1 =>
   have H := HA.out; clear HA; simp only [spec_l20At.l0] at H
   by_cases c4 : x5_1 < (l0_5.length : Int)
   ·rw [if_pos c4] at H
    have c4b0 : decide (x5_1 < (l0_5.length : Int)) = true := decide_eq_true c4; clear c4
    by_cases c5 : 0 ≤ x5_1
    ·rw [if_pos c5] at H
     have c5b0:decide (0≤x5_1)=true:=decide_eq_true c5;clear c5;have HU6:=D H;clear H;obtain ⟨hcz7_0,hcz7_1,hcz7_2,hcz7_3,hcz7_4,hcz7_5,hfz7_0,hfz7_1,hfz7_2,hfz7_3,hfz7_4,hfz7_5⟩:=cells6 BK152.out;have p153:0≤(x5_1:Int):=od_ Z47;have q153:x5_1 < (l0_5.length:Int):=od_ Z47;obtain ⟨ad153,A153_5,c153_5,e153,hx153_0,hx153_1,hx153_2,hx153_3,hx153_4,hx153_5,hl153_5,hi153_5⟩:=at_T50 HR0_5.out x5_1 p153 q153;cases e153;replace hx153_0:=rc_ HB.out hx153_0;replace hx153_1:=rc_ HB.out hx153_1;replace hx153_2:=rc_ HB.out hx153_2;replace hx153_3:=rc_ HB.out hx153_3;replace hx153_4:=rc_ HB.out hx153_4;replace hx153_5:=rc_ HB.out hx153_5;have HR153_5:=D hi153_5;have HC153_5:=D hl153_5;clear hi153_5 hl153_5;replace p153:=eq_true p153;replace q153:=eq_true q153
     go_upto_if 20 with (fail)
     have H := HU6.out; clear HU6
     by_cases c8 : ((rd_T50 l0_5 x5_1).f0) = a1
     ·rw [if_pos c8] at H
      have c8b0:(((rd_T50 l0_5 x5_1).f0) == a1)=true:=beq_iff_eq.mpr c8;have c8b1:(((rd_T50 l0_5 x5_1).f0) != a1)=false:=bne_eq_false_iff_eq.mpr c8;clear c8;refine rw_ c8b0 ?_;obtain rfl:=Option.some.inj H
      go_wp2
      go_ret; exact ⟨er_, pB_ HB.out⟩
     ·rw [if_neg c8] at H
      have c8b0:(((rd_T50 l0_5 x5_1).f0) == a1)=false:=beq_eq_false_iff_ne.mpr c8;have c8b1:(((rd_T50 l0_5 x5_1).f0) != a1)=true:=bne_iff_ne.mpr c8;refine rw_ c8b0 ?_;have H':=D H;clear H
      go_wp2
      go_roundg k1
      case measure => have := HK1.out; omega
      case rel => exact ⟨(wrap64 (x5_1 + 1)), Z48, H', ⟨by have := HK1.out; omega⟩, ⟨pk_ BK152.out⟩, ⟨pB_ HB.out⟩⟩
    ·rw [if_neg c5] at H
     exact absurd H (by simp)
   ·rw [if_neg c4] at H
    have c4b0:decide (x5_1 < (l0_5.length:Int))=false:=decide_eq_false c4;clear c4;obtain rfl:=Option.some.inj H;obtain ⟨hcz9_0,hcz9_1,hcz9_2,hcz9_3,hcz9_4,hcz9_5,hfz9_0,hfz9_1,hfz9_2,hfz9_3,hfz9_4,hfz9_5⟩:=cells6 BK152.out
    go_wp2
    go_ret; exact ⟨er_, pB_ HB.out⟩

/-! ### spec_l18At: function 33 -/
def spec_l18At.l0 : Nat → Int → Int → Int → Int → Int → Int → List (S70) → Option (Int)
 | 0, _, _, _, _, _, _, _ => none
 | k + 1,x1,x5,x155000,x155001,x155002,x155003,x155004=>if x5 < (x155004.length:Int) then (if 0≤x5 then (if ((rd_T70 x155004 x5).f0)=x1 then (some x5) else (spec_l18At.l0 k x1 (wrap64 (x5 + 1)) x155000 x155001 x155002 x155003 x155004)) else (none)) else (some (-1))
def spec_l18At.f (k : Nat) (a0_0 a0_1 a0_2 a0_3 : Int) (l0_4 : List (S70)) (a1 : Int) : Option (Int) := spec_l18At.l0 k a1 0 a0_0 a0_1 a0_2 a0_3 l0_4
set_option maxHeartbeats 8000000 in
set_option maxRecDepth 100000 in
theorem spec_l18At.calls (k : Nat) (a0_0 a0_1 a0_2 a0_3 : Int) (A0_4 : Option Addr) (c0_4 : Nat) (l0_4 : List (S70)) (a1 r : Int) (w : World) (hr0_4 : Kd.C k70 w A0_4 l0_4.length l0_4) (hc0_4 : l0_4.length ≤ c0_4) (h : spec_l18At.f k a0_0 a0_1 a0_2 a0_3 l0_4 a1 = some r) :
  Calls Try.prog 33 #[.agg #[I L a0_0,I L a0_1,I L a0_2,I L a0_3,Y A0_4 l0_4.length c0_4],I L a1] w fun e w'=>e=.returned (I L r)∧Below w.heap.size w w':=by
 have hu34 := Try.underlying34
 have HR0_4 := D hr0_4
 have HC0_4 := D hc0_4
 clear hr0_4 hc0_4
 have HB := D (Below.refl w.heap.size w)
 have H : (spec_l18At.l0 k a1 0 a0_0 a0_1 a0_2 a0_3 l0_4) = some r := h
 clear h
 have H' := D H
 clear H
 go_enter Try.func33, Try.ntmps33
 go_wp2_with (first|((with_reducible refine gate_dst (N:=2) rfl ?_);refine bx_ (N:=2) (cs:=#[I L a0_0,I L a0_1,I L a0_2,I L a0_3,Y A0_4 l0_4.length c0_4]) (t:=34) ?_;intro gb154 hg w3 hbox hb;have n_:=an_ (below_step (pB_ HB.out) hb)<|an_ (hbox)<|an_ (bg_ hg (pB_ HB.out):w.heap.size≤gb154)<|D (bg_ hg (pB_ HB.out):w.heap.size≤gb154);clear HB;obtain ⟨HB,BK154,GW154,GE154⟩:=n_;clear hb hbox hg))
 go_loopg [5] k (fun kq v5 w'=>∃ (x5_1:Int),v5=I L x5_1∧Aside0 (spec_l18At.l0 kq a1 x5_1 a0_0 a0_1 a0_2 a0_3 l0_4=some r)∧Aside0 (kq≤k)∧Aside0 (w'.heap[gb154]?=some (.cells #[I L a0_0,I L a0_1,I L a0_2,I L a0_3,(Y A0_4 l0_4.length c0_4)] 34 (0,0)))∧Aside0 (Below w.heap.size w w'))
 case atStart => exact ⟨(0), Z48, H', ⟨Nat.le_refl _⟩, ⟨pk_ BK154.out⟩, ⟨pB_ HB.out⟩⟩
 case round =>
  clear H'
  try clear p2
  try clear c3
  obtain ⟨x5_1, rfl, HA, HK1, BK154, HB⟩ := hrel
  cases gk with
  | zero => exact absurd HA.out (by simp [spec_l18At.l0])
  | succ k1 =>
   have H := HA.out; clear HA; simp only [spec_l18At.l0] at H
   by_cases c4 : x5_1 < (l0_4.length : Int)
   ·rw [if_pos c4] at H
    have c4b0 : decide (x5_1 < (l0_4.length : Int)) = true := decide_eq_true c4; clear c4
    by_cases c5 : 0 ≤ x5_1
    ·rw [if_pos c5] at H
     have c5b0:decide (0≤x5_1)=true:=decide_eq_true c5;clear c5;have HU6:=D H;clear H;obtain ⟨hcz7_0,hcz7_1,hcz7_2,hcz7_3,hcz7_4,hfz7_0,hfz7_1,hfz7_2,hfz7_3,hfz7_4⟩:=cells5 BK154.out;have p155:0≤(x5_1:Int):=od_ Z47;have q155:x5_1 < (l0_4.length:Int):=od_ Z47;obtain ⟨ad155,e155,hx155_0,hx155_1,hx155_2,hx155_3,hx155_4,hx155_5⟩:=at_T70 HR0_4.out x5_1 p155 q155;cases e155;replace hx155_0:=rc_ HB.out hx155_0;replace hx155_1:=rc_ HB.out hx155_1;replace hx155_2:=rc_ HB.out hx155_2;replace hx155_3:=rc_ HB.out hx155_3;replace hx155_4:=rc_ HB.out hx155_4;replace hx155_5:=rc_ HB.out hx155_5;replace p155:=eq_true p155;replace q155:=eq_true q155
     go_upto_if 20 with (fail)
     have H := HU6.out; clear HU6
     by_cases c8 : ((rd_T70 l0_4 x5_1).f0) = a1
     ·rw [if_pos c8] at H
      have c8b0:(((rd_T70 l0_4 x5_1).f0) == a1)=true:=beq_iff_eq.mpr c8;have c8b1:(((rd_T70 l0_4 x5_1).f0) != a1)=false:=bne_eq_false_iff_eq.mpr c8;clear c8;refine rw_ c8b0 ?_;obtain rfl:=Option.some.inj H
      go_wp2
      go_ret; exact ⟨er_, pB_ HB.out⟩
     ·rw [if_neg c8] at H
      have c8b0:(((rd_T70 l0_4 x5_1).f0) == a1)=false:=beq_eq_false_iff_ne.mpr c8;have c8b1:(((rd_T70 l0_4 x5_1).f0) != a1)=true:=bne_iff_ne.mpr c8;refine rw_ c8b0 ?_;have H':=D H;clear H
      go_wp2
      go_roundg k1
      case measure => have := HK1.out; omega
      case rel => exact ⟨(wrap64 (x5_1 + 1)), Z48, H', ⟨by have := HK1.out; omega⟩, ⟨pk_ BK154.out⟩, ⟨pB_ HB.out⟩⟩
    ·rw [if_neg c5] at H
     exact absurd H (by simp)
   ·rw [if_neg c4] at H
    have c4b0:decide (x5_1 < (l0_4.length:Int))=false:=decide_eq_false c4;clear c4;obtain rfl:=Option.some.inj H;obtain ⟨hcz9_0,hcz9_1,hcz9_2,hcz9_3,hcz9_4,hfz9_0,hfz9_1,hfz9_2,hfz9_3,hfz9_4⟩:=cells5 BK154.out
    go_wp2
    go_ret; exact ⟨er_, pB_ HB.out⟩

/-! ### spec_l18Copy: function 34 -/
def spec_l18Copy.f (a0_0 a0_1 a0_2 a0_3 : Int) (l0_4 : List (S70)) : Option (Int × Int × Int × Int × (List (S70))) := (some (([] : List (S70)) : List (S70))).bind fun y158 => (if y158.length + l0_4.length < 2932031007402 then (some (a0_0, a0_1, a0_2, a0_3, (y158 ++ l0_4))) else (none))
def spec_l18Copy.T1 : Bool × List (List Nat × List Nat) := (true, [([], []), ([0], [0]), ([], []), ([2], [2]), ([], []), ([], []), ([5], [5]), ([4, 6], [4, 6]), ([1, 3, 7], [1, 3, 7]), ([8, 7, 0, 1, 2, 3, 4, 5, 6, 7, 8], [8])])
def spec_l18Copy.B1 : List Nat := [0, 1, 0, 4, 0, 0, 32, 112, 255, 511]
theorem spec_l18Copy.tab1 : rtab .any (opsOf Try.f34 1) = spec_l18Copy.T1 := by kernel_rfl
theorem spec_l18Copy.bits1 : waitsOk spec_l18Copy.T1.2 spec_l18Copy.B1 = true := by kernel_rfl
set_option maxHeartbeats 8000000 in
set_option maxRecDepth 100000 in
theorem spec_l18Copy.calls (a0_0 a0_1 a0_2 a0_3 : Int) (A0_4 : Option Addr) (c0_4 : Nat) (l0_4 : List (S70)) (r1 r2 r3 r4 : Int) (r5 : List (S70)) (w : World) (hr0_4 : Kd.C k70 w A0_4 l0_4.length l0_4) (hc0_4 : l0_4.length ≤ c0_4) (h : spec_l18Copy.f a0_0 a0_1 a0_2 a0_3 l0_4 = some (r1, r2, r3, r4, r5)) :
  Calls Try.prog 34 #[.agg #[I L a0_0,I L a0_1,I L a0_2,I L a0_3,Y A0_4 l0_4.length c0_4]] w fun e w'=>∃ v4_:Value,e=.returned (.agg #[I L r1,I L r2,I L r3,I L r4,v4_])∧Kd.R k70 70 w' w.heap.size (fun _=>True) v4_ r5∧Below w.heap.size w w':=by
 have hu34 := Try.underlying34
 have hu31 := Try.underlying31
 have HR0_4 := D hr0_4
 have HC0_4 := D hc0_4
 clear hr0_4 hc0_4
 have HB := D (Below.refl w.heap.size w)
 have H:((some (([]:List (S70)):List (S70))).bind fun y158=>(if y158.length + l0_4.length < 2932031007402 then (some (a0_0,a0_1,a0_2,a0_3,(y158 ++ l0_4))) else (none)))=some (r1,r2,r3,r4,r5):=h
 clear h
 obtain ⟨y158, hy158⟩ : ∃ y_ : List (S70), y_ = (([] : List (S70))) := ⟨_, rfl⟩
 replace H:(if y158.length + l0_4.length < 2932031007402 then (some (a0_0,a0_1,a0_2,a0_3,(y158 ++ l0_4))) else (none))=some (r1,r2,r3,r4,r5):=by first|(rw [hy158];with_reducible exact H)|(have H2_:=(Option.bind_some _ _).symm.trans H;rw [hy158];with_reducible exact H2_)|(have H2_:=(Option.bind_some _ _).symm.trans H;with_reducible exact H2_)|with_reducible exact H|(rw [hy158];exact H)|exact H
 have Ny158 := D hy158
 clear hy158
 by_cases c2 : y158.length + l0_4.length < 2932031007402
 ·rw [if_pos c2] at H
  have LMc2 := D c2; clear c2; obtain ⟨y161, hy161⟩ : ∃ y_ : List (S70), y_ = (y158 ++ l0_4) := ⟨_, rfl⟩
  replace H:(some (a0_0,a0_1,a0_2,a0_3,y161))=some (r1,r2,r3,r4,r5):=by first|(rw [hy161];with_reducible exact H)|(have H2_:=(Option.bind_some _ _).symm.trans H;rw [hy161];with_reducible exact H2_)|(have H2_:=(Option.bind_some _ _).symm.trans H;with_reducible exact H2_)|with_reducible exact H|(rw [hy161];exact H)|exact H
  have Ny161 := D hy161; clear hy161; simp only [Option.some.injEq, Prod.mk.injEq] at H; obtain ⟨rfl, rfl, rfl, rfl, rfl⟩ := H; go_enter Try.func34, Try.ntmps34
  try go_wp2_with (first|((with_reducible refine gate_dst (N:=1) rfl ?_);refine bx_ (N:=1) (cs:=#[I L a0_0,I L a0_1,I L a0_2,I L a0_3,Y A0_4 l0_4.length c0_4]) (t:=34) ?_;intro gb156 hg w3 hbox hb;have n_:=an_ (below_step (pB_ HB.out) hb)<|an_ (hbox)<|an_ (bg_ hg (pB_ HB.out):w.heap.size≤gb156)<|D (bg_ hg (pB_ HB.out):w.heap.size≤gb156);clear HB;obtain ⟨HB,BK156,GW156,GE156⟩:=n_;clear hb hbox hg)|((with_reducible refine gate_dst (N:=2) rfl ?_);refine bx_ (N:=2) (cs:=#[I L 0,I L 0,I L 0,I L 0,Y none 0 0]) (t:=34) ?_;intro gb157 hg w4 hbox hb;have n_:=an_ (blk_below (pk_ BK156.out) hb)<|an_ (below_step (pB_ HB.out) hb)<|an_ (hbox)<|an_ (bg_ hg (pB_ HB.out):w.heap.size≤gb157)<|an_ (bg_ hg (pB_ HB.out):w.heap.size≤gb157)<|an_ ((by rw [hg];exact Nat.ne_of_lt (blk_lt (pk_ BK156.out)):gb156≠gb157))<|D (by rw [hg];exact Nat.ne_of_gt (blk_lt (pk_ BK156.out)):gb157≠gb156);clear BK156 HB;obtain ⟨BK156,HB,BK157,GW157,GE157,NB156_157,NB157_156⟩:=n_;clear hb hbox hg))
  have n_ := an_ (blk_drew BK156.out) <| an_ (blk_drew BK157.out) <| D (below_drew1 HB.out)
  clear BK156 BK157 HB;obtain ⟨BK156,BK157,HB⟩:=n_;refine start_ (n:=10) (S:=fun w'=>w'.cell? ⟨gb156,0,none⟩=some (I L a0_0)∧w'.cell? ⟨gb156,1,none⟩=some (I L a0_1)∧w'.cell? ⟨gb156,2,none⟩=some (I L a0_2)∧w'.cell? ⟨gb156,3,none⟩=some (I L a0_3)∧w'.cell? ⟨gb156,4,none⟩=some (Y A0_4 l0_4.length c0_4)) (ds:=[]) (bz 10 0) (by kernel_rfl) rfl (by kernel_rfl) ⟨bc_ BK156.out 0,bc_ BK156.out 1,bc_ BK156.out 2,bc_ BK156.out 3,bc_ BK156.out 4⟩ (fun hHeld=>?_);refine with_tabW spec_l18Copy.tab1 spec_l18Copy.bits1 (fun HT_ HW_=>?_);generalize w4.drew=w5 at BK156 BK157 HB hHeld ⊢;refine pa_ 0 3 10 1 HT_ ?_;refine pa_ 2 5 10 5 HT_ ?_;refine pa_ 5 8 10 37 HT_ ?_;refine ta_ 1 4 10 39 HT_ HW_ rfl rfl hHeld Z45 ?_;refine ta_ 3 6 10 47 HT_ HW_ rfl rfl hHeld Z45 ?_;refine ta_ 6 9 10 111 HT_ HW_ rfl rfl hHeld Z45 ?_;refine oa_ 4 7 10 127 HT_ (fun K hK=>?_);refine Kd.R_lit_step k70 _ 70 ?hg (N:=7) ?hd (xs:=([]:List (S70))) (inner:=[]) (ok:=fun _=>True) (okp:=fun _=>True) ?hr ?hp (fun _ hk=>hk) trivial (Below.refl _ _) (Nat.le_refl _) (by simp) ?_;(case hd=>rfl);(case hg=>rfl);(case hr=>first|(go_simp;done)|(go_simp;rfl));(case hp=>exact (Reps.none _ _));intro v159 w6 ho7 hb hg_ hnew_;clear hg_ hnew_;(first|rw [← Ny158.out] at ho7|(simp only [Int.reduceToNat] at ho7;rw [← Ny158.out] at ho7))
  have n_ := an_ (Kd.R_lower ho7 (below_size (pB_ HB.out))) <| an_ (blk_below (pk_ BK156.out) hb) <| an_ (blk_below (pk_ BK157.out) hb) <| D (below_step (pB_ HB.out) hb)
  clear BK156 BK157 HB;obtain ⟨HO160,BK156,BK157,HB⟩:=n_;clear hb ho7;refine hK.out _ _ ⟨bc_ BK156.out 0,bc_ BK156.out 1,bc_ BK156.out 2,bc_ BK156.out 3,bc_ BK156.out 4⟩ (fun hHeld=>?_);clear hK K;refine nx_ (N:=some 7) ?_;refine oa_ 7 10 10 255 HT_ (fun K hK=>?_);refine Kd.R_append_rows_step k70 (w0:=w) w.heap.size (by rfl) (.tmp 7) (.tmp 9) 32 70 (.agg #[(I L 0),(I L 0),(.bool false),(I L 0),(I L 0),(I L 0)]) 48 rfl Try.underlying32 info70 rfl (by decide) (by omega) v159 y158 l0_4 _ _ _ (fun _=>True) (fun _=>False) rfl rfl ?aO ?aR (fun _ _ h=>h) (fun _ h=>h.elim) ?aF ?aB ?aS ?aL ?_;(case aR=>exact pC_ (Kd.C_below HR0_4.out HB.out));(case aB=>exact (pB_ HB.out));(case aF=>exact (fun _ _=>trivial));(case aO=>exact (pR_ HO160.out));(case aS=>exact (below_size (pB_ HB.out)));(case aL=>have:=LMc2.out;omega);intro v162 w8 ho hb hg hat;rw [← Ny161.out] at ho
  have n_ := an_ (blk_grown (pk_ BK156.out) hg (Kd.R_ne HO160.out BK156.out (by decide))) <| an_ (blk_grown (pk_ BK157.out) hg (Kd.R_ne HO160.out BK157.out (by decide))) <| an_ (hb) <| D (ho)
  clear BK156 BK157 HB HO160;obtain ⟨BK156,BK157,HB,HO163⟩:=n_;clear ho hb hg hat;obtain ⟨Ao9,co9,eo9⟩:=Kd.R_slice HO163.out;(first|subst eo9|obtain ⟨rfl,rfl⟩:=sl_inj eo9);refine hK.out _ _ ⟨bc_ BK156.out 0,bc_ BK156.out 1,bc_ BK156.out 2,bc_ BK156.out 3,bc_ BK156.out 4⟩ (fun hHeld=>?_);clear hK K;refine nx_ (N:=some 10) ?_;refine pa_ 8 11 10 511 HT_ ?_;refine one_ (i:=9) (N:=none) (bz 10 1023) rfl rfl (one_of HT_.out (by kernel_rfl)) (by decide) (fun K hK=>?_);have hs10:w8.cell? ⟨gb157,0,none⟩=some (I L 0):=bc_ BK157.out 0;have hfs10:=blk_frozen BK157.out 0;have hns10_0:=NB156_157.out;have hms10_0:=NB157_156.out;have hs11:w8.cell? ⟨gb157,1,none⟩=some (I L 0):=bc_ BK157.out 1;have hfs11:=blk_frozen BK157.out 1;have hns11_0:=NB156_157.out;have hms11_0:=NB157_156.out;have hs12:w8.cell? ⟨gb157,2,none⟩=some (I L 0):=bc_ BK157.out 2;have hfs12:=blk_frozen BK157.out 2;have hns12_0:=NB156_157.out;have hms12_0:=NB157_156.out;have hs13:w8.cell? ⟨gb157,3,none⟩=some (I L 0):=bc_ BK157.out 3;have hfs13:=blk_frozen BK157.out 3;have hns13_0:=NB156_157.out;have hms13_0:=NB157_156.out;have hs14:w8.cell? ⟨gb157,4,none⟩=some (Y none 0 0):=bc_ BK157.out 4;have hfs14:=blk_frozen BK157.out 4;have hns14_0:=NB156_157.out;have hms14_0:=NB157_156.out;refine skip_ (w1:=?_) (by rfl) rfl ?_ ?_;rotate_left
  ·go_simp
   rfl
  refine hK.out _ _ ⟨((cell_far (p:=⟨gb157,_,none⟩) NB156_157.out _).trans (((cell_far (p:=⟨gb157,_,none⟩) NB156_157.out _).trans (((cell_far (p:=⟨gb157,_,none⟩) NB156_157.out _).trans (((cell_far (p:=⟨gb157,_,none⟩) NB156_157.out _).trans (((cell_far (p:=⟨gb157,_,none⟩) NB156_157.out _).trans (hHeld.1)))))))))),((cell_far (p:=⟨gb157,_,none⟩) NB156_157.out _).trans (((cell_far (p:=⟨gb157,_,none⟩) NB156_157.out _).trans (((cell_far (p:=⟨gb157,_,none⟩) NB156_157.out _).trans (((cell_far (p:=⟨gb157,_,none⟩) NB156_157.out _).trans (((cell_far (p:=⟨gb157,_,none⟩) NB156_157.out _).trans (hHeld.2.1)))))))))),((cell_far (p:=⟨gb157,_,none⟩) NB156_157.out _).trans (((cell_far (p:=⟨gb157,_,none⟩) NB156_157.out _).trans (((cell_far (p:=⟨gb157,_,none⟩) NB156_157.out _).trans (((cell_far (p:=⟨gb157,_,none⟩) NB156_157.out _).trans (((cell_far (p:=⟨gb157,_,none⟩) NB156_157.out _).trans (hHeld.2.2.1)))))))))),((cell_far (p:=⟨gb157,_,none⟩) NB156_157.out _).trans (((cell_far (p:=⟨gb157,_,none⟩) NB156_157.out _).trans (((cell_far (p:=⟨gb157,_,none⟩) NB156_157.out _).trans (((cell_far (p:=⟨gb157,_,none⟩) NB156_157.out _).trans (((cell_far (p:=⟨gb157,_,none⟩) NB156_157.out _).trans (hHeld.2.2.2.1)))))))))),((cell_far (p:=⟨gb157,_,none⟩) NB156_157.out _).trans (((cell_far (p:=⟨gb157,_,none⟩) NB156_157.out _).trans (((cell_far (p:=⟨gb157,_,none⟩) NB156_157.out _).trans (((cell_far (p:=⟨gb157,_,none⟩) NB156_157.out _).trans (((cell_far (p:=⟨gb157,_,none⟩) NB156_157.out _).trans (hHeld.2.2.2.2))))))))))⟩ (fun hHeld=>?_);clear hK K;refine done_ (done_of HT_.out (by kernel_rfl)) ?_
  try go_wp2
  refine bodyPost_ret (results_cell_row rfl _ _ gb157 34 #[I L a0_0,I L a0_1,I L a0_2,I L a0_3,Y Ao9 y161.length co9] (0,0) _ rfl (by exact pP_ BK157.out) Try.underlying34 rfl (by kernel_rfl)) rfl ?_;exact ⟨_,er_,by (with_reducible repeat (first|apply Kd.R_alloc|apply Kd.R_drewN|apply Kd.R_drew));exact Kd.R_mono (fr_ (fr_ (fr_ (fr_ (fr_ (Kd.R_types HO163.out BK157.out (by decide)) 0 (I L a0_0)) 1 (I L a0_1)) 2 (I L a0_2)) 3 (I L a0_3)) 4 (Y Ao9 y161.length co9)) (fun _ hk=>trivial),pB_ HB.out⟩
 ·rw [if_neg c2] at H
  exact absurd H (by simp)

/-! ### spec_FairRest: function 15 -/
def spec_FairRest.f (k : Nat) (a0_0 a0_1 a0_2 a0_3 : Int) (l0_4 : List (S70)) (a1 : Int) : Option (Int × Int × Int × Int × (List (S70)) × Int) := (spec_FairOk.f k a0_0 a0_1 a0_2 a0_3 l0_4).bind fun t166 => (if t166 = true then ((spec_l18At.f k a0_0 a0_1 a0_2 a0_3 l0_4 a1).bind fun t167 => (if t167 < 0 then (some (0, 0, 0, 0, ([] : List (S70)), 4)) else (if 0 ≤ t167 then (if t167 < (l0_4.length : Int) then (if ((rd_T70 l0_4 t167).f2 = true) then ((spec_l18Copy.f a0_0 a0_1 a0_2 a0_3 l0_4).bind fun bt169 => (if t167 < (bt169.2.2.2.2.length : Int) then (some (bt169.1, bt169.2.1, bt169.2.2.1, bt169.2.2.2.1, (bt169.2.2.2.2.set (t167 : Int).toNat (⟨(rd_T70 bt169.2.2.2.2 t167).f0, (rd_T70 bt169.2.2.2.2 t167).f1, false, (⟨(rd_T70 bt169.2.2.2.2 t167).f3.f0, (rd_T70 bt169.2.2.2.2 t167).f3.f1, (rd_T70 bt169.2.2.2.2 t167).f3.f2⟩ : S31)⟩ : S70)), 0)) else (none))) else (some (0, 0, 0, 0, ([] : List (S70)), 6))) else (none)) else (none)))) else (some (0, 0, 0, 0, ([] : List (S70)), 1)))
set_option maxHeartbeats 8000000 in
set_option maxRecDepth 100000 in
theorem spec_FairRest.calls (k : Nat) (a0_0 a0_1 a0_2 a0_3 : Int) (A0_4 : Option Addr) (c0_4 : Nat) (l0_4 : List (S70)) (a1 r1 r2 r3 r4 : Int) (r5 : List (S70)) (r6 : Int) (w : World) (hr0_4 : Kd.C k70 w A0_4 l0_4.length l0_4) (hc0_4 : l0_4.length ≤ c0_4) (h : spec_FairRest.f k a0_0 a0_1 a0_2 a0_3 l0_4 a1 = some (r1, r2, r3, r4, r5, r6)) :
  Calls Try.prog 15 #[.agg #[I L a0_0,I L a0_1,I L a0_2,I L a0_3,Y A0_4 l0_4.length c0_4],I L a1] w fun e w'=>∃ v4_:Value,e=.returned (.tuple #[.agg #[I L r1,I L r2,I L r3,I L r4,v4_],I L r6])∧Kd.R k70 70 w' w.heap.size (fun _=>True) v4_ r5∧Below w.heap.size w w':=by
 have hu34 := Try.underlying34
 have HR0_4 := D hr0_4
 have HC0_4 := D hc0_4
 clear hr0_4 hc0_4
 have HB := D (Below.refl w.heap.size w)
 have H:((spec_FairOk.f k a0_0 a0_1 a0_2 a0_3 l0_4).bind fun Md=>(if Md=true then ((spec_l18At.f k a0_0 a0_1 a0_2 a0_3 l0_4 a1).bind fun Ja=>(if Ja < 0 then (some (0,0,0,0,([]:List (S70)),4)) else (if 0≤Ja then (if Ja < (l0_4.length:Int) then (if ((rd_T70 l0_4 Ja).f2=true) then ((spec_l18Copy.f a0_0 a0_1 a0_2 a0_3 l0_4).bind fun bt169=>(if Ja < (bt169.2.2.2.2.length:Int) then (some (bt169.1,bt169.2.1,bt169.2.2.1,bt169.2.2.2.1,(bt169.2.2.2.2.set (Ja:Int).toNat (⟨(rd_T70 bt169.2.2.2.2 Ja).f0,(rd_T70 bt169.2.2.2.2 Ja).f1,false,(⟨(rd_T70 bt169.2.2.2.2 Ja).f3.f0,(rd_T70 bt169.2.2.2.2 Ja).f3.f1,(rd_T70 bt169.2.2.2.2 Ja).f3.f2⟩:S31)⟩:S70)),0)) else (none))) else (some (0,0,0,0,([]:List (S70)),6))) else (none)) else (none)))) else (some (0,0,0,0,([]:List (S70)),1))))=some (r1,r2,r3,r4,r5,r6):=h
 clear h
 obtain ⟨Md, A30, H⟩ := bs_.mp H
 (try dsimp only at H)
 have A3 := D A30
 clear A30
 have HU4 := D H
 clear H
 go_enter Try.func15, Try.ntmps15
 go_upto_if 10 with (first|((with_reducible refine gate_dst (N:=2) rfl ?_);refine bx_ (N:=2) (cs:=#[I L a0_0,I L a0_1,I L a0_2,I L a0_3,Y A0_4 l0_4.length c0_4]) (t:=34) ?_;intro Xb hg w5 hbox hb;have n_:=an_ (below_step (pB_ HB.out) hb)<|an_ (hbox)<|an_ (bg_ hg (pB_ HB.out):w.heap.size≤Xb)<|D (bg_ hg (pB_ HB.out):w.heap.size≤Xb);clear HB;obtain ⟨HB,Ma,Je,Ke⟩:=n_;clear hb hbox hg)|((with_reducible refine gate_dst (N:=4) rfl ?_);refine bx_ (N:=4) (cs:=#[I L 0,I L 0,I L 0,I L 0,Y none 0 0]) (t:=34) ?_;intro Mb hg w6 hbox hb;have n_:=an_ (blk_below (pk_ Ma.out) hb)<|an_ (below_step (pB_ HB.out) hb)<|an_ (hbox)<|an_ (bg_ hg (pB_ HB.out):w.heap.size≤Mb)<|an_ (bg_ hg (pB_ HB.out):w.heap.size≤Mb)<|an_ ((by rw [hg];exact Nat.ne_of_lt (blk_lt (pk_ Ma.out)):Xb≠Mb))<|D (by rw [hg];exact Nat.ne_of_gt (blk_lt (pk_ Ma.out)):Mb≠Xb);clear Ma HB;obtain ⟨Ma,HB,Oa,Me,Oe,Mc,Oc⟩:=n_;clear hb hbox hg;(try have hnb7:=Mc.out);(try have hnc7:=Oc.out);obtain ⟨Ue,Xe,Jf,Kf,Mf,Of,Uf,Xf,Jg,Kg⟩:=cells5 Ma.out)|((with_reducible refine gate_callee (f:=32) rfl ?_);refine goesL_ (some 9) rfl rfl Try.func32 (by kernel_rfl) rfl #[.agg #[I L a0_0,I L a0_1,I L a0_2,I L a0_3,Y A0_4 l0_4.length c0_4]] rfl Z18 ?_;(with_reducible refine (spec_FairOk.calls k a0_0 a0_1 a0_2 a0_3 _ _ l0_4 Md _ ?side1 ?side2 A3.out).mono ?_);(case side1=>exact pC_ (Kd.C_below HR0_4.out HB.out));(case side2=>exact HC0_4.out);rintro e w9 ⟨rfl,hb⟩;refine ⟨_,rfl,?_⟩;have n_:=an_ (blk_below (pk_ Ma.out) hb)<|an_ (blk_below (pk_ Oa.out) hb)<|D (below_step (pB_ HB.out) hb);clear Ma Oa HB;obtain ⟨Ma,Oa,HB⟩:=n_;(try clear hb)))
 have H := HU4.out
 clear HU4
 by_cases c10 : Md = true
 ·subst c10
  rw [if_pos rfl] at H;obtain ⟨Ja,A110,H⟩:=bs_.mp H;(try dsimp only at H);have A11:=D A110;clear A110;have HU12:=D H;clear H;(try have hnb13:=Mc.out);(try have hnc13:=Oc.out);obtain ⟨Mg,Og,Ug,Xg,Jh,Kh,Mh,Oh,Uh,Xh⟩:=cells5 Ma.out
  go_upto_if 16 with (first|((with_reducible refine gate_callee (f:=33) rfl ?_);refine goesL_ (some 14) rfl rfl Try.func33 (by kernel_rfl) rfl #[.agg #[I L a0_0,I L a0_1,I L a0_2,I L a0_3,Y A0_4 l0_4.length c0_4],I L a1] rfl Z18 ?_;(with_reducible refine (spec_l18At.calls k a0_0 a0_1 a0_2 a0_3 _ _ l0_4 a1 Ja _ ?side1 ?side2 A11.out).mono ?_);(case side1=>exact pC_ (Kd.C_below HR0_4.out HB.out));(case side2=>exact HC0_4.out);rintro e w15 ⟨rfl,hb⟩;refine ⟨_,rfl,?_⟩;have n_:=an_ (blk_below (pk_ Ma.out) hb)<|an_ (blk_below (pk_ Oa.out) hb)<|D (below_step (pB_ HB.out) hb);clear Ma Oa HB;obtain ⟨Ma,Oa,HB⟩:=n_;(try clear hb)))
  have H := HU12.out; clear HU12
  by_cases c16 : Ja < 0
  ·rw [if_pos c16] at H
   have c16b0:decide (Ja < 0)=true:=decide_eq_true c16;clear c16;refine rw_ c16b0 ?_;simp only [Option.some.injEq,Prod.mk.injEq] at H;obtain ⟨rfl,rfl,rfl,rfl,rfl,rfl⟩:=H;(try have hnb17:=Oc.out);(try have hnc17:=Mc.out);obtain ⟨Ji,Ki,Mi,Oi,Ui,Xi,Jj,Kj,Mj,Oj⟩:=cells5 Oa.out
   go_wp2
   refine bodyPost_ret (results_ct rfl _ _ Mb 34 #[I L 0,I L 0,I L 0,I L 0,Y none 0 0] (0,0) _ rfl Z5 Try.underlying34 rfl (by kernel_rfl)) rfl ?_;exact ⟨_,er_,by first|exact Kd.R_nil _ _ _ _ _|exact Kd.N_nil _ _ _ _ _|exact Kd.V_nil _ _ _ _ _|exact Kd.Q_nil _ _ _ _ _|exact Kd.S_nil _ _ _ _ _,pB_ HB.out⟩
  ·rw [if_neg c16] at H
   have c16b0:decide (Ja < 0)=false:=decide_eq_false c16;clear c16;refine rw_ c16b0 ?_
   by_cases c19 : 0 ≤ Ja
   ·rw [if_pos c19] at H
    have c19b0 : decide (0 ≤ Ja) = true := decide_eq_true c19; clear c19
    by_cases c20 : Ja < (l0_4.length : Int)
    ·rw [if_pos c20] at H
     have c20b0:decide (Ja < (l0_4.length:Int))=true:=decide_eq_true c20;clear c20;have HU21:=D H;clear H;(try have hnb22:=Mc.out);(try have hnc22:=Oc.out);obtain ⟨Uj,Xj,Jk,Kk,Mk,Ok,Uk,Xk,Jm,Km⟩:=cells5 Ma.out;have p168:0≤(Ja:Int):=od_ Z47;have q168:Ja < (l0_4.length:Int):=od_ Z47;obtain ⟨ad168,e168,hx168_0,hx168_1,hx168_2,hx168_3,hx168_4,hx168_5⟩:=at_T70 HR0_4.out Ja p168 q168;cases e168;replace hx168_0:=rc_ HB.out hx168_0;replace hx168_1:=rc_ HB.out hx168_1;replace hx168_2:=rc_ HB.out hx168_2;replace hx168_3:=rc_ HB.out hx168_3;replace hx168_4:=rc_ HB.out hx168_4;replace hx168_5:=rc_ HB.out hx168_5;replace p168:=eq_true p168;replace q168:=eq_true q168
     go_upto_if 24 with (fail)
     have H := HU21.out; clear HU21; obtain ⟨bq24, hbq24⟩ : ∃ b_ : Bool, b_ = ((rd_T70 l0_4 Ja).f2) := ⟨_, rfl⟩
     replace H:(if (bq24=true) then ((spec_l18Copy.f a0_0 a0_1 a0_2 a0_3 l0_4).bind fun bt169=>(if Ja < (bt169.2.2.2.2.length:Int) then (some (bt169.1,bt169.2.1,bt169.2.2.1,bt169.2.2.2.1,(bt169.2.2.2.2.set (Ja:Int).toNat (⟨(rd_T70 bt169.2.2.2.2 Ja).f0,(rd_T70 bt169.2.2.2.2 Ja).f1,false,(⟨(rd_T70 bt169.2.2.2.2 Ja).f3.f0,(rd_T70 bt169.2.2.2.2 Ja).f3.f1,(rd_T70 bt169.2.2.2.2 Ja).f3.f2⟩:S31)⟩:S70)),0)) else (none))) else (some (0,0,0,0,([]:List (S70)),6)))=some (r1,r2,r3,r4,r5,r6):=by rw [← hbq24] at H;exact H
     have Nbq24 := D hbq24; clear hbq24; (try rw [← Nbq24.out])
     by_cases c25 : (bq24 = true)
     ·subst c25
      rw [if_pos rfl] at H; obtain ⟨⟨Kb, Ob, Ub, Jc, Ka⟩, A260, H⟩ := bs_.mp H; (try dsimp only at H); have A26 := D A260; clear A260
      by_cases c27 : Ja < (Ka.length : Int)
      ·rw [if_pos c27] at H
       have c27b0:decide (Ja < (Ka.length:Int))=true:=decide_eq_true c27;clear c27;obtain ⟨y177,hy177⟩:∃ y_:List (S70),y_=(Ka.set (Ja:Int).toNat (⟨(rd_T70 Ka Ja).f0,(rd_T70 Ka Ja).f1,false,(⟨(rd_T70 Ka Ja).f3.f0,(rd_T70 Ka Ja).f3.f1,(rd_T70 Ka Ja).f3.f2⟩:S31)⟩:S70)):=⟨_,rfl⟩
       replace H:(some (Kb,Ob,Ub,Jc,y177,0))=some (r1,r2,r3,r4,r5,r6):=by first|(rw [hy177];with_reducible exact H)|(have H2_:=(Option.bind_some _ _).symm.trans H;rw [hy177];with_reducible exact H2_)|(have H2_:=(Option.bind_some _ _).symm.trans H;with_reducible exact H2_)|with_reducible exact H|(rw [hy177];exact H)|exact H
       have Ny177:=D hy177;clear hy177;simp only [Option.some.injEq,Prod.mk.injEq] at H;obtain ⟨rfl,rfl,rfl,rfl,rfl,rfl⟩:=H;(try have hnb29:=Mc.out);(try have hnc29:=Oc.out);obtain ⟨Mm,Om,Um,Xm,Jn,Kn,Mn,On,Un,Xn⟩:=cells5 Ma.out
       go_wp2_with (first|((with_reducible refine gate_callee (f:=34) rfl ?_);refine goesL_ (some 27) rfl rfl Try.func34 (by kernel_rfl) rfl #[.agg #[I L a0_0,I L a0_1,I L a0_2,I L a0_3,Y (some ad168) l0_4.length c0_4]] rfl Z18 ?_;(with_reducible refine (spec_l18Copy.calls a0_0 a0_1 a0_2 a0_3 _ _ l0_4 Kb Ob Ub Jc Ka _ ?side1 ?side2 A26.out).mono ?_);(case side1=>exact pC_ (Kd.C_below HR0_4.out HB.out));(case side2=>exact HC0_4.out);rintro e w31 ⟨Jo,rfl,ho0,hb⟩;refine ⟨_,rfl,?_⟩;have n_:=an_ (Kd.R_lower ho0 (below_size (pB_ HB.out)))<|an_ (blk_below (pk_ Ma.out) hb)<|an_ (blk_below (pk_ Oa.out) hb)<|D (below_step (pB_ HB.out) hb);clear Ma Oa HB;obtain ⟨Jb,Ma,Oa,HB⟩:=n_;(try clear hb);(try clear ho0))|((with_reducible refine gate_dst (N:=7) rfl ?_);refine bx_ (N:=7) (cs:=#[I L 0,I L 0,I L 0,I L 0,Y none 0 0]) (t:=34) ?_;intro Xa hg w32 hbox hb;have n_:=an_ (Kd.R_below (pR_ Jb.out) hb)<|an_ (blk_below (pk_ Ma.out) hb)<|an_ (blk_below (pk_ Oa.out) hb)<|an_ (below_step (pB_ HB.out) hb)<|an_ (hbox)<|an_ (bg_ hg (pB_ HB.out):w.heap.size≤Xa)<|an_ (bg_ hg (pB_ HB.out):w.heap.size≤Xa)<|an_ ((by rw [hg];exact Nat.ne_of_lt (blk_lt (pk_ Ma.out)):Xb≠Xa))<|an_ ((by rw [hg];exact Nat.ne_of_gt (blk_lt (pk_ Ma.out)):Xa≠Xb))<|an_ ((by rw [hg];exact Nat.ne_of_lt (blk_lt (pk_ Oa.out)):Mb≠Xa))<|D (by rw [hg];exact Nat.ne_of_gt (blk_lt (pk_ Oa.out)):Xa≠Mb);clear Jb Ma Oa HB;obtain ⟨Jb,Ma,Oa,HB,Ua,Ko,Mo,Uc,Ud,Xc,Xd⟩:=n_;clear hb hbox hg;(try have hnb33:=Ud.out);(try have hnc33:=Uc.out);(try have hnb34:=Xd.out);(try have hnc34:=Xc.out);obtain ⟨Oo,Uo,Xo,Jp,Kp,Mp,Op,Up,Xp,Jq⟩:=cells5 Ua.out;obtain ⟨Jd,Kc,eo36⟩:=Kd.R_slice Jb.out;subst eo36)|((with_reducible refine gate_store (t:=34) (p:=7) rfl ?_);refine store_event (t:=34) (p:=7) (v:=?vo_w37) (w1:=(((((w32.setCell ⟨Xa,0,none⟩ (I L Kb)).setCell ⟨Xa,1,none⟩ (I L Ob)).setCell ⟨Xa,2,none⟩ (I L Ub)).setCell ⟨Xa,3,none⟩ (I L Jc)).setCell ⟨Xa,4,none⟩ (Y Jd Ka.length Kc))) ?hg ?ho ?hn ?hr ?_;(case ho=>rfl);(case hg=>rfl);(case hn=>rfl);(case hr=>first|(go_simp;done)|(go_simp;rfl));intro w37 hw;have n0_:Aside0 (Kd.R k70 70 w37 w.heap.size (fun _=>True) (Y Jd Ka.length Kc) Ka):=⟨(by rw [hw];exact (rM_ (Kd.R_types Jb.out Ua.out (by decide)) (fun _ hk=>trivial)))⟩;have n1_:Aside0 (w37.heap[Xb]?=some (.cells #[I L a0_0,I L a0_1,I L a0_2,I L a0_3,Y (some ad168) l0_4.length c0_4] 34 (0,0))):=⟨(by rw [hw];exact (by exact pP_ Ma.out))⟩;have n2_:Aside0 (w37.heap[Mb]?=some (.cells #[I L 0,I L 0,I L 0,I L 0,Y none 0 0] 34 (0,0))):=⟨(by rw [hw];exact Z12)⟩;have n3_:Aside0 (w37.heap[Xa]?=some (.cells #[I L Kb,I L Ob,I L Ub,I L Jc,Y Jd Ka.length Kc] 34 (0,0))):=⟨(by rw [hw];exact (by exact pP_ Ua.out))⟩;have n4_:Aside0 (Below w.heap.size w w37):=⟨Z49⟩;clear hw;clear Jb;clear Ma;clear Oa;clear Ua;clear HB;have Jb:=n0_;have Ma:=n1_;have Oa:=n2_;have Ua:=n3_;have HB:=n4_;clear n0_ n1_ n2_ n3_ n4_;obtain ⟨Kq,Mq,Oq,Uq,Xq,Jr,Kr,Mr,Or,Ur⟩:=cells5 Ua.out;have p28:0≤(Ja:Int):=od_ Z47;have q28:(Ja:Int) < ((Ka.length:Int):Int):=od_ Z47;obtain ⟨go28,Xr,eo28,Od,gl28,cl28,HG28⟩:=Kd.R_form Jb.out (by omega);(first|cases eo28|(injection eo28 with ea_ en_ ec_;(first|subst ea_|(injection ea_ with ea_;subst ea_));subst ec_;clear en_));have GB28:=D Od;have GG28:=D HG28;clear Od gl28 HG28;obtain ⟨ce28,hcl28,hM28,hcc28,hfr28⟩:=Kd.R_elem Jb.out z70 (Ja:Int) p28 q28;obtain rfl:=k70_openM hM28;have hx28_0:w37.cell? ⟨go28,(Ja:Int).toNat * 6,none⟩=some (I L ((rd_T70 Ka Ja).f0)):=hcc28 0 _ rfl;have hx28_1:w37.cell? ⟨go28,(Ja:Int).toNat * 6 + 1,none⟩=some (I L ((rd_T70 Ka Ja).f1)):=hcc28 1 _ rfl;have hx28_2:w37.cell? ⟨go28,(Ja:Int).toNat * 6 + 2,none⟩=some (.bool ((rd_T70 Ka Ja).f2)):=hcc28 2 _ rfl;have hx28_3:w37.cell? ⟨go28,(Ja:Int).toNat * 6 + 3,none⟩=some (I L ((rd_T70 Ka Ja).f3.f0)):=hcc28 3 _ rfl;have hx28_4:w37.cell? ⟨go28,(Ja:Int).toNat * 6 + 4,none⟩=some (I L ((rd_T70 Ka Ja).f3.f1)):=hcc28 4 _ rfl;have hx28_5:w37.cell? ⟨go28,(Ja:Int).toNat * 6 + 5,none⟩=some (I L ((rd_T70 Ka Ja).f3.f2)):=hcc28 5 _ rfl;have hf28_0:w37.frozen? ⟨go28,(Ja:Int).toNat * 6,none⟩=false:=hfr28 0;have hf28_1:w37.frozen? ⟨go28,(Ja:Int).toNat * 6 + 1,none⟩=false:=hfr28 1;have hf28_2:w37.frozen? ⟨go28,(Ja:Int).toNat * 6 + 2,none⟩=false:=hfr28 2;have hf28_3:w37.frozen? ⟨go28,(Ja:Int).toNat * 6 + 3,none⟩=false:=hfr28 3;have hf28_4:w37.frozen? ⟨go28,(Ja:Int).toNat * 6 + 4,none⟩=false:=hfr28 4;have hf28_5:w37.frozen? ⟨go28,(Ja:Int).toNat * 6 + 5,none⟩=false:=hfr28 5;clear hcl28 hcc28 hfr28 hM28;replace p28:=eq_true p28;replace q28:=eq_true q28;have HX39:=D (show Kd.R k70 70 w37 w.heap.size (fun _=>True) (Y (some ⟨go28,0,none⟩) Ka.length Kc) Ka from (pR_ Jb.out));obtain ⟨ce39,hcl39,hM39,hcc39,hfr39⟩:=Kd.R_elem HX39.out z70 (Ja:Int) (od_ Z47) (by have h_:(Ja:Int) < ((Ka.length:Int):Int):=od_ Z47;first|exact h_|(have e_:=(Kd.R_reads' Jb.out).1;omega)|simpa using h_);obtain rfl:=k70_openM hM39;have HP39:=Kd.R_seg HX39.out (Ja:Int) (od_ Z47) (by have h_:(Ja:Int) < ((Ka.length:Int):Int):=od_ Z47;first|exact h_|(have e_:=(Kd.R_reads' Jb.out).1;omega)|simpa using h_) (seg:=[.bool false]) (j:=2) hcl39 hcc39 (show 3≤6 from by decide) (x':=(⟨(rd_T70 Ka Ja).f0,(rd_T70 Ka Ja).f1,false,(⟨(rd_T70 Ka Ja).f3.f0,(rd_T70 Ka Ja).f3.f1,(rd_T70 Ka Ja).f3.f2⟩:S31)⟩:S70)) (k70_mkM _ _ _ (⟨(rd_T70 Ka Ja).f0,(rd_T70 Ka Ja).f1,false,(⟨(rd_T70 Ka Ja).f3.f0,(rd_T70 Ka Ja).f3.f1,(rd_T70 Ka Ja).f3.f2⟩:S31)⟩:S70) ) (fun _ hk=>hk);have hx39_2:=hcc39 2 _ rfl;(try simp only [show (k70).sz=6 from rfl,Nat.mul_one,Nat.add_zero] at hx39_2);have hf39_2:=hfr39 2;(try simp only [show (k70).sz=6 from rfl,Nat.mul_one,Nat.add_zero] at hf39_2);clear hcl39 hcc39 hfr39 hM39)|((with_reducible refine gate_store (t:=4) (p:=32) rfl ?_);refine store_event (t:=4) (p:=32) (v:=?vo_w40) (w1:=(w37.setCell ⟨go28,(Ja:Int).toNat * 6 + 2,none⟩ (.bool false))) ?hg ?ho ?hn ?hr ?_;(case ho=>rfl);(case hg=>rfl);(case hn=>rfl);(case hr=>first|(go_simp;done)|(go_simp;rfl));intro w40 hw;have hg:w37.grownBy w40 (some go28):=(by rw [hw];exact HP39.2);have hp_:Kd.R k70 70 w40 w.heap.size (fun _=>True) (Y (some ⟨go28,0,none⟩) Ka.length Kc) y177:=(by rw [hw,Ny177.out];exact HP39.1);clear HP39;have n_:=an_ (blk_grown (pk_ Ma.out) hg (Kd.R_ne Jb.out Ma.out (by decide)))<|an_ (blk_grown (pk_ Oa.out) hg (Kd.R_ne Jb.out Oa.out (by decide)))<|an_ (hp_)<|an_ (blk_grown (pk_ Ua.out) hg (Kd.R_ne Jb.out Ua.out (by decide)))<|D (by rw [hw];exact below_set (HB.out) GB28.out:Below w.heap.size w w40);clear Ma Oa Jb Ua HB;obtain ⟨Ma,Oa,Jb,Ua,HB⟩:=n_;clear hg hw hp_;obtain ⟨Js,Ks,Ms,Os,Us,Xs,Ju,Ku,Mu,Ou⟩:=cells5 Ua.out;obtain ⟨Uu,Xu,Jv,Kv,Mv,Ov,Uv,Xv,Jx,Kx⟩:=cells5 Oa.out))
       refine bodyPost_ret (results_ct rfl _ _ Mb 34 #[I L Kb,I L Ob,I L Ub,I L Jc,Y (some ⟨go28,0,none⟩) Ka.length Kc] (0,0) _ rfl (by exact pP_ Oa.out) Try.underlying34 rfl (by kernel_rfl)) rfl ?_;exact ⟨_,er_,by (with_reducible repeat (first|apply Kd.R_alloc|apply Kd.R_drewN|apply Kd.R_drew));exact Kd.R_mono (fr_ (fr_ (fr_ (fr_ (fr_ (Kd.R_types Jb.out Oa.out (by decide)) 0 (I L Kb)) 1 (I L Ob)) 2 (I L Ub)) 3 (I L Jc)) 4 (Y (some ⟨go28,0,none⟩) Ka.length Kc)) (fun _ hk=>trivial),pB_ HB.out⟩
      ·rw [if_neg c27] at H
       exact absurd H (by simp)
     ·replace c25 := Bool.eq_false_iff.mpr c25
      subst c25;rw [if_neg (show ¬ (false=true) by decide)] at H;simp only [Option.some.injEq,Prod.mk.injEq] at H;obtain ⟨rfl,rfl,rfl,rfl,rfl,rfl⟩:=H;(try have hnb43:=Oc.out);(try have hnc43:=Mc.out);obtain ⟨Mx,Ox,Ux,Xx,Jy,Ky,My,Oy,Uy,Xy⟩:=cells5 Oa.out
      go_wp2
      refine bodyPost_ret (results_ct rfl _ _ Mb 34 #[I L 0,I L 0,I L 0,I L 0,Y none 0 0] (0,0) _ rfl Z5 Try.underlying34 rfl (by kernel_rfl)) rfl ?_;exact ⟨_,er_,by first|exact Kd.R_nil _ _ _ _ _|exact Kd.N_nil _ _ _ _ _|exact Kd.V_nil _ _ _ _ _|exact Kd.Q_nil _ _ _ _ _|exact Kd.S_nil _ _ _ _ _,pB_ HB.out⟩
    ·rw [if_neg c20] at H
     exact absurd H (by simp)
   ·rw [if_neg c19] at H
    exact absurd H (by simp)
 ·replace c10 := Bool.eq_false_iff.mpr c10
  subst c10;rw [if_neg (show ¬ (false=true) by decide)] at H;simp only [Option.some.injEq,Prod.mk.injEq] at H;obtain ⟨rfl,rfl,rfl,rfl,rfl,rfl⟩:=H;(try have hnb45:=Oc.out);(try have hnc45:=Mc.out);obtain ⟨Jz,Kz,Mz,Oz,Uz,Xz,Ja1,Ka1,Ma1,Oa1⟩:=cells5 Oa.out
  go_wp2
  refine bodyPost_ret (results_ct rfl _ _ Mb 34 #[I L 0,I L 0,I L 0,I L 0,Y none 0 0] (0,0) _ rfl Z5 Try.underlying34 rfl (by kernel_rfl)) rfl ?_;exact ⟨_,er_,by first|exact Kd.R_nil _ _ _ _ _|exact Kd.N_nil _ _ _ _ _|exact Kd.V_nil _ _ _ _ _|exact Kd.Q_nil _ _ _ _ _|exact Kd.S_nil _ _ _ _ _,pB_ HB.out⟩

end Go.Proofs.Ytolphjnajopknab.PFnExactTreeRest
