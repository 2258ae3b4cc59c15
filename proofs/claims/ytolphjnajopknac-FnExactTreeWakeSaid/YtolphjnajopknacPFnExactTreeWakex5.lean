-- by a program of this session's, over the kit's words
import Derived.Test.YtolphjnajopknacPZFnExactTreeWake
import Derived.Test.YtolphjnajopknacPFnExactTreeWakex0
import Derived.Test.YtolphjnajopknacPFnExactTreeWakex2
namespace Go.Proofs.Ytolphjnajopknac.PFnExactTreeWake
open Go.RowKit Go.Proofs.YtolphjnajopknacW.PrintWords Go.Proofs.YtolphjnajopknacW.PrintLast Go.Proofs.YtolphjnajopknacW.PrintMore Go.Proofs.YtolphjnajopknacV Go.Proofs.Ytolphjnajopknac.ZFnExactTreeWake
open Go.Value renaming int → I, slice → Y
open Go.IntKind renaming i64 → L
open Aside0 renaming mk → D
open Option renaming bind_eq_some_iff → bs_
attribute [local go_sem] max2_int min2_int max_two min_two max_three min_three max_four min_four   -- for this text's walks alone
set_option linter.unusedVariables false
set_option linter.unusedSimpArgs false

/-! ### spec_l20At: function 14 -/
def spec_l20At.l0 : Nat → Int → Int → Int → Int → Int → Int → List (S52) → List (S50) → Option (Int)
 | 0, _, _, _, _, _, _, _, _ => none
 | k + 1,x1,x5,x153000,x153001,x153002,x153003,x153004,x153005=>if x5 < (x153005.length:Int) then (if 0≤x5 then (if ((rd_T50 x153005 x5).f0)=x1 then (some x5) else (spec_l20At.l0 k x1 (wrap64 (x5 + 1)) x153000 x153001 x153002 x153003 x153004 x153005)) else (none)) else (some (-1))
def spec_l20At.f (k : Nat) (a0_0 a0_1 a0_2 a0_3 : Int) (l0_4 : List (S52)) (l0_5 : List (S50)) (a1 : Int) : Option (Int) := spec_l20At.l0 k a1 0 a0_0 a0_1 a0_2 a0_3 l0_4 l0_5
set_option maxHeartbeats 8000000 in
set_option maxRecDepth 100000 in
theorem spec_l20At.calls (k : Nat) (a0_0 a0_1 a0_2 a0_3 : Int) (A0_4 : Option Addr) (c0_4 : Nat) (l0_4 : List (S52)) (A0_5 : Option Addr) (c0_5 : Nat) (l0_5 : List (S50)) (a1 r : Int) (w : World) (hr0_4 : Kd.C k52 w A0_4 l0_4.length l0_4) (hc0_4 : l0_4.length ≤ c0_4) (hr0_5 : Kd.C k50 w A0_5 l0_5.length l0_5) (hc0_5 : l0_5.length ≤ c0_5) (h : spec_l20At.f k a0_0 a0_1 a0_2 a0_3 l0_4 l0_5 a1 = some r) :
  Calls Try.prog 14 #[.agg #[I L a0_0,I L a0_1,I L a0_2,I L a0_3,Y A0_4 l0_4.length c0_4,Y A0_5 l0_5.length c0_5],I L a1] w fun e w'=>e=.returned (I L r)∧Below w.heap.size w w':=by
 have hu37 := Try.underlying37
 have HR0_4 := D hr0_4
 have HC0_4 := D hc0_4
 clear hr0_4 hc0_4
 have HR0_5 := D hr0_5
 have HC0_5 := D hc0_5
 clear hr0_5 hc0_5
 have HB := D (Below.refl w.heap.size w)
 have H : (spec_l20At.l0 k a1 0 a0_0 a0_1 a0_2 a0_3 l0_4 l0_5) = some r := h
 clear h
 have H' := D H
 clear H
 go_enter Try.func14, Try.ntmps14
 go_wp2_with (first|((with_reducible refine gate_dst (N:=2) rfl ?_);refine bx_ (N:=2) (cs:=#[I L a0_0,I L a0_1,I L a0_2,I L a0_3,Y A0_4 l0_4.length c0_4,Y A0_5 l0_5.length c0_5]) (t:=37) ?_;intro gb152 hg w3 hbox hb;have n_:=an_ (below_step (pB_ HB.out) hb)<|an_ (hbox)<|an_ (bg_ hg (pB_ HB.out):w.heap.size≤gb152)<|D (bg_ hg (pB_ HB.out):w.heap.size≤gb152);clear HB;obtain ⟨HB,BK152,GW152,GE152⟩:=n_;clear hb hbox hg))
 go_loopg [5] k (fun kq v5 w'=>∃ (x5_1:Int),v5=I L x5_1∧Aside0 (spec_l20At.l0 kq a1 x5_1 a0_0 a0_1 a0_2 a0_3 l0_4 l0_5=some r)∧Aside0 (kq≤k)∧Aside0 (w'.heap[gb152]?=some (.cells #[I L a0_0,I L a0_1,I L a0_2,I L a0_3,(Y A0_4 l0_4.length c0_4),(Y A0_5 l0_5.length c0_5)] 37 (0,0)))∧Aside0 (Below w.heap.size w w'))
 case atStart => exact ⟨(0), Z61, H', ⟨Nat.le_refl _⟩, ⟨pk_ BK152.out⟩, ⟨pB_ HB.out⟩⟩
 case round =>
  clear H'
  try clear c1
  try clear p2
  obtain ⟨x5_1, rfl, HA, HK1, BK152, HB⟩ := hrel
  cases gk with
  | zero => exact absurd HA.out (by simp [spec_l20At.l0])
  | succ k1 =>
   have H := HA.out; clear HA; simp only [spec_l20At.l0] at H
   by_cases c4 : x5_1 < (l0_5.length : Int)
   ·rw [if_pos c4] at H
    have c4b0 : decide (x5_1 < (l0_5.length : Int)) = true := decide_eq_true c4; clear c4
    by_cases c5 : 0 ≤ x5_1
    ·rw [if_pos c5] at H
     have c5b0:decide (0≤x5_1)=true:=decide_eq_true c5;clear c5;have HU6:=D H;clear H;obtain ⟨hcz7_0,hcz7_1,hcz7_2,hcz7_3,hcz7_4,hcz7_5,hfz7_0,hfz7_1,hfz7_2,hfz7_3,hfz7_4,hfz7_5⟩:=cells6 BK152.out;have p153:0≤(x5_1:Int):=od_ Z60;have q153:x5_1 < (l0_5.length:Int):=od_ Z60;obtain ⟨ad153,A153_5,c153_5,e153,hx153_0,hx153_1,hx153_2,hx153_3,hx153_4,hx153_5,hl153_5,hi153_5⟩:=at_T50 HR0_5.out x5_1 p153 q153;cases e153;replace hx153_0:=rc_ HB.out hx153_0;replace hx153_1:=rc_ HB.out hx153_1;replace hx153_2:=rc_ HB.out hx153_2;replace hx153_3:=rc_ HB.out hx153_3;replace hx153_4:=rc_ HB.out hx153_4;replace hx153_5:=rc_ HB.out hx153_5;have HR153_5:=D hi153_5;have HC153_5:=D hl153_5;clear hi153_5 hl153_5;replace p153:=eq_true p153;replace q153:=eq_true q153
     go_upto_if 20 with (fail)
     have H := HU6.out; clear HU6
     by_cases c8 : ((rd_T50 l0_5 x5_1).f0) = a1
     ·rw [if_pos c8] at H
      have c8b0:(((rd_T50 l0_5 x5_1).f0) == a1)=true:=beq_iff_eq.mpr c8;have c8b1:(((rd_T50 l0_5 x5_1).f0) != a1)=false:=bne_eq_false_iff_eq.mpr c8;clear c8;refine rw_ c8b0 ?_;obtain rfl:=Option.some.inj H
      go_wp2
      go_ret; exact ⟨er_, pB_ HB.out⟩
     ·rw [if_neg c8] at H
      have c8b0:(((rd_T50 l0_5 x5_1).f0) == a1)=false:=beq_eq_false_iff_ne.mpr c8;have c8b1:(((rd_T50 l0_5 x5_1).f0) != a1)=true:=bne_iff_ne.mpr c8;refine rw_ c8b0 ?_;have H':=D H;clear H
      go_wp2
      go_roundg k1
      case measure => have := HK1.out; omega
      case rel => exact ⟨(wrap64 (x5_1 + 1)), Z61, H', ⟨by have := HK1.out; omega⟩, ⟨pk_ BK152.out⟩, ⟨pB_ HB.out⟩⟩
    ·rw [if_neg c5] at H
     exact absurd H (by simp)
   ·rw [if_neg c4] at H
    have c4b0:decide (x5_1 < (l0_5.length:Int))=false:=decide_eq_false c4;clear c4;obtain rfl:=Option.some.inj H;obtain ⟨hcz9_0,hcz9_1,hcz9_2,hcz9_3,hcz9_4,hcz9_5,hfz9_0,hfz9_1,hfz9_2,hfz9_3,hfz9_4,hfz9_5⟩:=cells6 BK152.out
    go_wp2
    go_ret; exact ⟨er_, pB_ HB.out⟩

/-! ### spec_l18At: function 32 -/
def spec_l18At.l0 : Nat → Int → Int → Int → Int → Int → Int → List (S52) → Option (Int)
 | 0, _, _, _, _, _, _, _ => none
 | k + 1,x1,x5,x155000,x155001,x155002,x155003,x155004=>if x5 < (x155004.length:Int) then (if 0≤x5 then (if ((rd_T52 x155004 x5).f0)=x1 then (some x5) else (spec_l18At.l0 k x1 (wrap64 (x5 + 1)) x155000 x155001 x155002 x155003 x155004)) else (none)) else (some (-1))
def spec_l18At.f (k : Nat) (a0_0 a0_1 a0_2 a0_3 : Int) (l0_4 : List (S52)) (a1 : Int) : Option (Int) := spec_l18At.l0 k a1 0 a0_0 a0_1 a0_2 a0_3 l0_4
set_option maxHeartbeats 8000000 in
set_option maxRecDepth 100000 in
theorem spec_l18At.calls (k : Nat) (a0_0 a0_1 a0_2 a0_3 : Int) (A0_4 : Option Addr) (c0_4 : Nat) (l0_4 : List (S52)) (a1 r : Int) (w : World) (hr0_4 : Kd.C k52 w A0_4 l0_4.length l0_4) (hc0_4 : l0_4.length ≤ c0_4) (h : spec_l18At.f k a0_0 a0_1 a0_2 a0_3 l0_4 a1 = some r) :
  Calls Try.prog 32 #[.agg #[I L a0_0,I L a0_1,I L a0_2,I L a0_3,Y A0_4 l0_4.length c0_4],I L a1] w fun e w'=>e=.returned (I L r)∧Below w.heap.size w w':=by
 have hu34 := Try.underlying34
 have HR0_4 := D hr0_4
 have HC0_4 := D hc0_4
 clear hr0_4 hc0_4
 have HB := D (Below.refl w.heap.size w)
 have H : (spec_l18At.l0 k a1 0 a0_0 a0_1 a0_2 a0_3 l0_4) = some r := h
 clear h
 have H' := D H
 clear H
 go_enter Try.func32, Try.ntmps32
 go_wp2_with (first|((with_reducible refine gate_dst (N:=2) rfl ?_);refine bx_ (N:=2) (cs:=#[I L a0_0,I L a0_1,I L a0_2,I L a0_3,Y A0_4 l0_4.length c0_4]) (t:=34) ?_;intro gb154 hg w3 hbox hb;have n_:=an_ (below_step (pB_ HB.out) hb)<|an_ (hbox)<|an_ (bg_ hg (pB_ HB.out):w.heap.size≤gb154)<|D (bg_ hg (pB_ HB.out):w.heap.size≤gb154);clear HB;obtain ⟨HB,BK154,GW154,GE154⟩:=n_;clear hb hbox hg))
 go_loopg [5] k (fun kq v5 w'=>∃ (x5_1:Int),v5=I L x5_1∧Aside0 (spec_l18At.l0 kq a1 x5_1 a0_0 a0_1 a0_2 a0_3 l0_4=some r)∧Aside0 (kq≤k)∧Aside0 (w'.heap[gb154]?=some (.cells #[I L a0_0,I L a0_1,I L a0_2,I L a0_3,(Y A0_4 l0_4.length c0_4)] 34 (0,0)))∧Aside0 (Below w.heap.size w w'))
 case atStart => exact ⟨(0), Z61, H', ⟨Nat.le_refl _⟩, ⟨pk_ BK154.out⟩, ⟨pB_ HB.out⟩⟩
 case round =>
  clear H'
  try clear p2
  try clear c3
  obtain ⟨x5_1, rfl, HA, HK1, BK154, HB⟩ := hrel
  cases gk with
  | zero => exact absurd HA.out (by simp [spec_l18At.l0])
  | succ k1 =>
   have H := HA.out; clear HA; simp only [spec_l18At.l0] at H
   by_cases c4 : x5_1 < (l0_4.length : Int)
   ·rw [if_pos c4] at H
    have c4b0 : decide (x5_1 < (l0_4.length : Int)) = true := decide_eq_true c4; clear c4
    by_cases c5 : 0 ≤ x5_1
    ·rw [if_pos c5] at H
     have c5b0:decide (0≤x5_1)=true:=decide_eq_true c5;clear c5;have HU6:=D H;clear H;obtain ⟨hcz7_0,hcz7_1,hcz7_2,hcz7_3,hcz7_4,hfz7_0,hfz7_1,hfz7_2,hfz7_3,hfz7_4⟩:=cells5 BK154.out;have p155:0≤(x5_1:Int):=od_ Z60;have q155:x5_1 < (l0_4.length:Int):=od_ Z60;obtain ⟨ad155,e155,hx155_0,hx155_1,hx155_2,hx155_3,hx155_4,hx155_5⟩:=at_T52 HR0_4.out x5_1 p155 q155;cases e155;replace hx155_0:=rc_ HB.out hx155_0;replace hx155_1:=rc_ HB.out hx155_1;replace hx155_2:=rc_ HB.out hx155_2;replace hx155_3:=rc_ HB.out hx155_3;replace hx155_4:=rc_ HB.out hx155_4;replace hx155_5:=rc_ HB.out hx155_5;replace p155:=eq_true p155;replace q155:=eq_true q155
     go_upto_if 20 with (fail)
     have H := HU6.out; clear HU6
     by_cases c8 : ((rd_T52 l0_4 x5_1).f0) = a1
     ·rw [if_pos c8] at H
      have c8b0:(((rd_T52 l0_4 x5_1).f0) == a1)=true:=beq_iff_eq.mpr c8;have c8b1:(((rd_T52 l0_4 x5_1).f0) != a1)=false:=bne_eq_false_iff_eq.mpr c8;clear c8;refine rw_ c8b0 ?_;obtain rfl:=Option.some.inj H
      go_wp2
      go_ret; exact ⟨er_, pB_ HB.out⟩
     ·rw [if_neg c8] at H
      have c8b0:(((rd_T52 l0_4 x5_1).f0) == a1)=false:=beq_eq_false_iff_ne.mpr c8;have c8b1:(((rd_T52 l0_4 x5_1).f0) != a1)=true:=bne_iff_ne.mpr c8;refine rw_ c8b0 ?_;have H':=D H;clear H
      go_wp2
      go_roundg k1
      case measure => have := HK1.out; omega
      case rel => exact ⟨(wrap64 (x5_1 + 1)), Z61, H', ⟨by have := HK1.out; omega⟩, ⟨pk_ BK154.out⟩, ⟨pB_ HB.out⟩⟩
    ·rw [if_neg c5] at H
     exact absurd H (by simp)
   ·rw [if_neg c4] at H
    have c4b0:decide (x5_1 < (l0_4.length:Int))=false:=decide_eq_false c4;clear c4;obtain rfl:=Option.some.inj H;obtain ⟨hcz9_0,hcz9_1,hcz9_2,hcz9_3,hcz9_4,hfz9_0,hfz9_1,hfz9_2,hfz9_3,hfz9_4⟩:=cells5 BK154.out
    go_wp2
    go_ret; exact ⟨er_, pB_ HB.out⟩

/-! ### spec_l18Copy: function 33 -/
def spec_l18Copy.f (a0_0 a0_1 a0_2 a0_3 : Int) (l0_4 : List (S52)) : Option (Int × Int × Int × Int × (List (S52))) := (some (([] : List (S52)) : List (S52))).bind fun y158 => (if y158.length + l0_4.length < 2932031007402 then (some (a0_0, a0_1, a0_2, a0_3, (y158 ++ l0_4))) else (none))
def spec_l18Copy.T1 : Bool × List (List Nat × List Nat) := (true, [([], []), ([0], [0]), ([], []), ([2], [2]), ([], []), ([], []), ([5], [5]), ([4, 6], [4, 6]), ([1, 3, 7], [1, 3, 7]), ([8, 7, 0, 1, 2, 3, 4, 5, 6, 7, 8], [8])])
def spec_l18Copy.B1 : List Nat := [0, 1, 0, 4, 0, 0, 32, 112, 255, 511]
theorem spec_l18Copy.tab1 : rtab .any (opsOf Try.f33 1) = spec_l18Copy.T1 := by kernel_rfl
theorem spec_l18Copy.bits1 : waitsOk spec_l18Copy.T1.2 spec_l18Copy.B1 = true := by kernel_rfl
set_option maxHeartbeats 8000000 in
set_option maxRecDepth 100000 in
theorem spec_l18Copy.calls (a0_0 a0_1 a0_2 a0_3 : Int) (A0_4 : Option Addr) (c0_4 : Nat) (l0_4 : List (S52)) (r1 r2 r3 r4 : Int) (r5 : List (S52)) (w : World) (hr0_4 : Kd.C k52 w A0_4 l0_4.length l0_4) (hc0_4 : l0_4.length ≤ c0_4) (h : spec_l18Copy.f a0_0 a0_1 a0_2 a0_3 l0_4 = some (r1, r2, r3, r4, r5)) :
  Calls Try.prog 33 #[.agg #[I L a0_0,I L a0_1,I L a0_2,I L a0_3,Y A0_4 l0_4.length c0_4]] w fun e w'=>∃ v4_:Value,e=.returned (.agg #[I L r1,I L r2,I L r3,I L r4,v4_])∧Kd.R k52 52 w' w.heap.size (fun _=>True) v4_ r5∧Below w.heap.size w w':=by
 have hu34 := Try.underlying34
 have hu31 := Try.underlying31
 have HR0_4 := D hr0_4
 have HC0_4 := D hc0_4
 clear hr0_4 hc0_4
 have HB := D (Below.refl w.heap.size w)
 have H:((some (([]:List (S52)):List (S52))).bind fun y158=>(if y158.length + l0_4.length < 2932031007402 then (some (a0_0,a0_1,a0_2,a0_3,(y158 ++ l0_4))) else (none)))=some (r1,r2,r3,r4,r5):=h
 clear h
 obtain ⟨y158, hy158⟩ : ∃ y_ : List (S52), y_ = (([] : List (S52))) := ⟨_, rfl⟩
 replace H:(if y158.length + l0_4.length < 2932031007402 then (some (a0_0,a0_1,a0_2,a0_3,(y158 ++ l0_4))) else (none))=some (r1,r2,r3,r4,r5):=by first|(rw [hy158];with_reducible exact H)|(have H2_:=(Option.bind_some _ _).symm.trans H;rw [hy158];with_reducible exact H2_)|(have H2_:=(Option.bind_some _ _).symm.trans H;with_reducible exact H2_)|with_reducible exact H|(rw [hy158];exact H)|exact H
 have Ny158 := D hy158
 clear hy158
 by_cases c2 : y158.length + l0_4.length < 2932031007402
 ·rw [if_pos c2] at H
  have LMc2 := D c2; clear c2; obtain ⟨y161, hy161⟩ : ∃ y_ : List (S52), y_ = (y158 ++ l0_4) := ⟨_, rfl⟩
  replace H:(some (a0_0,a0_1,a0_2,a0_3,y161))=some (r1,r2,r3,r4,r5):=by first|(rw [hy161];with_reducible exact H)|(have H2_:=(Option.bind_some _ _).symm.trans H;rw [hy161];with_reducible exact H2_)|(have H2_:=(Option.bind_some _ _).symm.trans H;with_reducible exact H2_)|with_reducible exact H|(rw [hy161];exact H)|exact H
  have Ny161 := D hy161; clear hy161; simp only [Option.some.injEq, Prod.mk.injEq] at H; obtain ⟨rfl, rfl, rfl, rfl, rfl⟩ := H; go_enter Try.func33, Try.ntmps33
  try go_wp2_with (first|((with_reducible refine gate_dst (N:=1) rfl ?_);refine bx_ (N:=1) (cs:=#[I L a0_0,I L a0_1,I L a0_2,I L a0_3,Y A0_4 l0_4.length c0_4]) (t:=34) ?_;intro gb156 hg w3 hbox hb;have n_:=an_ (below_step (pB_ HB.out) hb)<|an_ (hbox)<|an_ (bg_ hg (pB_ HB.out):w.heap.size≤gb156)<|D (bg_ hg (pB_ HB.out):w.heap.size≤gb156);clear HB;obtain ⟨HB,BK156,GW156,GE156⟩:=n_;clear hb hbox hg)|((with_reducible refine gate_dst (N:=2) rfl ?_);refine bx_ (N:=2) (cs:=#[I L 0,I L 0,I L 0,I L 0,Y none 0 0]) (t:=34) ?_;intro gb157 hg w4 hbox hb;have n_:=an_ (blk_below (pk_ BK156.out) hb)<|an_ (below_step (pB_ HB.out) hb)<|an_ (hbox)<|an_ (bg_ hg (pB_ HB.out):w.heap.size≤gb157)<|an_ (bg_ hg (pB_ HB.out):w.heap.size≤gb157)<|an_ ((by rw [hg];exact Nat.ne_of_lt (blk_lt (pk_ BK156.out)):gb156≠gb157))<|D (by rw [hg];exact Nat.ne_of_gt (blk_lt (pk_ BK156.out)):gb157≠gb156);clear BK156 HB;obtain ⟨BK156,HB,BK157,GW157,GE157,NB156_157,NB157_156⟩:=n_;clear hb hbox hg))
  have n_ := an_ (blk_drew BK156.out) <| an_ (blk_drew BK157.out) <| D (below_drew1 HB.out)
  clear BK156 BK157 HB;obtain ⟨BK156,BK157,HB⟩:=n_;refine start_ (n:=10) (S:=fun w'=>w'.cell? ⟨gb156,0,none⟩=some (I L a0_0)∧w'.cell? ⟨gb156,1,none⟩=some (I L a0_1)∧w'.cell? ⟨gb156,2,none⟩=some (I L a0_2)∧w'.cell? ⟨gb156,3,none⟩=some (I L a0_3)∧w'.cell? ⟨gb156,4,none⟩=some (Y A0_4 l0_4.length c0_4)) (ds:=[]) (bz 10 0) (by kernel_rfl) rfl (by kernel_rfl) ⟨bc_ BK156.out 0,bc_ BK156.out 1,bc_ BK156.out 2,bc_ BK156.out 3,bc_ BK156.out 4⟩ (fun hHeld=>?_);refine with_tabW spec_l18Copy.tab1 spec_l18Copy.bits1 (fun HT_ HW_=>?_);generalize w4.drew=w5 at BK156 BK157 HB hHeld ⊢;refine pb_ 0 ?_;refine pb_ 2 ?_;refine pb_ 5 ?_;refine tb_ 1 rfl rfl hHeld Z58 ?_;refine tb_ 3 rfl rfl hHeld Z58 ?_;refine tb_ 6 rfl rfl hHeld Z58 ?_;refine oa_ 4 7 10 127 HT_ (fun K hK=>?_);refine Kd.R_lit_step k52 _ 52 ?hg (N:=7) ?hd (xs:=([]:List (S52))) (inner:=[]) (ok:=fun _=>True) (okp:=fun _=>True) ?hr ?hp (fun _ hk=>hk) trivial (Below.refl _ _) (Nat.le_refl _) (by simp) ?_;(case hd=>rfl);(case hg=>rfl);(case hr=>first|(go_simp;done)|(go_simp;rfl));(case hp=>exact (Reps.none _ _));intro v159 w6 ho7 hb hg_ hnew_;clear hg_ hnew_;(first|rw [← Ny158.out] at ho7|(simp only [Int.reduceToNat] at ho7;rw [← Ny158.out] at ho7))
  have n_ := an_ (Kd.R_lower ho7 (below_size (pB_ HB.out))) <| an_ (blk_below (pk_ BK156.out) hb) <| an_ (blk_below (pk_ BK157.out) hb) <| D (below_step (pB_ HB.out) hb)
  clear BK156 BK157 HB;obtain ⟨HO160,BK156,BK157,HB⟩:=n_;clear hb ho7;refine hK.out _ _ ⟨bc_ BK156.out 0,bc_ BK156.out 1,bc_ BK156.out 2,bc_ BK156.out 3,bc_ BK156.out 4⟩ (fun hHeld=>?_);clear hK K;refine nx_ (N:=some 7) ?_;refine oa_ 7 10 10 255 HT_ (fun K hK=>?_);refine Kd.R_append_rows_step k52 (w0:=w) w.heap.size (by rfl) (.tmp 7) (.tmp 9) 32 52 (.agg #[(I L 0),(I L 0),(.bool false),(I L 0),(I L 0),(I L 0)]) 48 rfl Try.underlying32 info52 rfl (by decide) (by omega) v159 y158 l0_4 _ _ _ (fun _=>True) (fun _=>False) rfl rfl ?aO ?aR (fun _ _ h=>h) (fun _ h=>h.elim) ?aF ?aB ?aS ?aL ?_;(case aR=>exact pC_ (Kd.C_below HR0_4.out HB.out));(case aB=>exact (pB_ HB.out));(case aF=>exact (fun _ _=>trivial));(case aO=>exact (pR_ HO160.out));(case aS=>exact (below_size (pB_ HB.out)));(case aL=>have:=LMc2.out;omega);intro v162 w8 ho hb hg hat;rw [← Ny161.out] at ho
  have n_ := an_ (blk_grown (pk_ BK156.out) hg (Kd.R_ne HO160.out BK156.out (by decide))) <| an_ (blk_grown (pk_ BK157.out) hg (Kd.R_ne HO160.out BK157.out (by decide))) <| an_ (hb) <| D (ho)
  clear BK156 BK157 HB HO160;obtain ⟨BK156,BK157,HB,HO163⟩:=n_;clear ho hb hg hat;obtain ⟨Ao9,co9,eo9⟩:=Kd.R_slice HO163.out;(first|subst eo9|obtain ⟨rfl,rfl⟩:=sl_inj eo9);refine hK.out _ _ ⟨bc_ BK156.out 0,bc_ BK156.out 1,bc_ BK156.out 2,bc_ BK156.out 3,bc_ BK156.out 4⟩ (fun hHeld=>?_);clear hK K;refine nx_ (N:=some 10) ?_;refine pb_ 8 ?_;refine one_ (i:=9) (N:=none) (bz 10 1023) rfl rfl (one_of HT_.out (by kernel_rfl)) (by decide) (fun K hK=>?_);have hs10:w8.cell? ⟨gb157,0,none⟩=some (I L 0):=bc_ BK157.out 0;have hfs10:=blk_frozen BK157.out 0;have hns10_0:=NB156_157.out;have hms10_0:=NB157_156.out;have hs11:w8.cell? ⟨gb157,1,none⟩=some (I L 0):=bc_ BK157.out 1;have hfs11:=blk_frozen BK157.out 1;have hns11_0:=NB156_157.out;have hms11_0:=NB157_156.out;have hs12:w8.cell? ⟨gb157,2,none⟩=some (I L 0):=bc_ BK157.out 2;have hfs12:=blk_frozen BK157.out 2;have hns12_0:=NB156_157.out;have hms12_0:=NB157_156.out;have hs13:w8.cell? ⟨gb157,3,none⟩=some (I L 0):=bc_ BK157.out 3;have hfs13:=blk_frozen BK157.out 3;have hns13_0:=NB156_157.out;have hms13_0:=NB157_156.out;have hs14:w8.cell? ⟨gb157,4,none⟩=some (Y none 0 0):=bc_ BK157.out 4;have hfs14:=blk_frozen BK157.out 4;have hns14_0:=NB156_157.out;have hms14_0:=NB157_156.out;refine skip_ (w1:=?_) (by rfl) rfl ?_ ?_;rotate_left
  ·go_simp
   rfl
  refine hK.out _ _ ⟨((cell_far (p:=⟨gb157,_,none⟩) NB156_157.out _).trans (((cell_far (p:=⟨gb157,_,none⟩) NB156_157.out _).trans (((cell_far (p:=⟨gb157,_,none⟩) NB156_157.out _).trans (((cell_far (p:=⟨gb157,_,none⟩) NB156_157.out _).trans (((cell_far (p:=⟨gb157,_,none⟩) NB156_157.out _).trans (hHeld.1)))))))))),((cell_far (p:=⟨gb157,_,none⟩) NB156_157.out _).trans (((cell_far (p:=⟨gb157,_,none⟩) NB156_157.out _).trans (((cell_far (p:=⟨gb157,_,none⟩) NB156_157.out _).trans (((cell_far (p:=⟨gb157,_,none⟩) NB156_157.out _).trans (((cell_far (p:=⟨gb157,_,none⟩) NB156_157.out _).trans (hHeld.2.1)))))))))),((cell_far (p:=⟨gb157,_,none⟩) NB156_157.out _).trans (((cell_far (p:=⟨gb157,_,none⟩) NB156_157.out _).trans (((cell_far (p:=⟨gb157,_,none⟩) NB156_157.out _).trans (((cell_far (p:=⟨gb157,_,none⟩) NB156_157.out _).trans (((cell_far (p:=⟨gb157,_,none⟩) NB156_157.out _).trans (hHeld.2.2.1)))))))))),((cell_far (p:=⟨gb157,_,none⟩) NB156_157.out _).trans (((cell_far (p:=⟨gb157,_,none⟩) NB156_157.out _).trans (((cell_far (p:=⟨gb157,_,none⟩) NB156_157.out _).trans (((cell_far (p:=⟨gb157,_,none⟩) NB156_157.out _).trans (((cell_far (p:=⟨gb157,_,none⟩) NB156_157.out _).trans (hHeld.2.2.2.1)))))))))),((cell_far (p:=⟨gb157,_,none⟩) NB156_157.out _).trans (((cell_far (p:=⟨gb157,_,none⟩) NB156_157.out _).trans (((cell_far (p:=⟨gb157,_,none⟩) NB156_157.out _).trans (((cell_far (p:=⟨gb157,_,none⟩) NB156_157.out _).trans (((cell_far (p:=⟨gb157,_,none⟩) NB156_157.out _).trans (hHeld.2.2.2.2))))))))))⟩ (fun hHeld=>?_);clear hK K;refine done_ (done_of HT_.out (by kernel_rfl)) ?_
  try go_wp2
  refine bodyPost_ret (results_cell_row rfl _ _ gb157 34 #[I L a0_0,I L a0_1,I L a0_2,I L a0_3,Y Ao9 y161.length co9] (0,0) _ rfl (by exact pP_ BK157.out) Try.underlying34 rfl (by kernel_rfl)) rfl ?_;exact ⟨_,er_,by (with_reducible repeat (first|apply Kd.R_alloc|apply Kd.R_drewN|apply Kd.R_drew));exact Kd.R_mono (fr_ (fr_ (fr_ (fr_ (fr_ (Kd.R_types HO163.out BK157.out (by decide)) 0 (I L a0_0)) 1 (I L a0_1)) 2 (I L a0_2)) 3 (I L a0_3)) 4 (Y Ao9 y161.length co9)) (fun _ hk=>trivial),pB_ HB.out⟩
 ·rw [if_neg c2] at H
  exact absurd H (by simp)

/-! ### spec_VecMost: function 34 -/
def spec_VecMost.f (a0_0 a0_1 a0_2 a1_0 a1_1 a1_2 : Int) : Option (Int × Int × Int) := some (mx a0_0 a1_0, mx a0_1 a1_1, mx a0_2 a1_2)
set_option maxHeartbeats 8000000 in
set_option maxRecDepth 100000 in
theorem spec_VecMost.calls (a0_0 a0_1 a0_2 a1_0 a1_1 a1_2 r1 r2 r3 : Int) (w : World) (h : spec_VecMost.f a0_0 a0_1 a0_2 a1_0 a1_1 a1_2 = some (r1, r2, r3)) :
  Calls Try.prog 34 #[.agg #[I L a0_0,I L a0_1,I L a0_2],.agg #[I L a1_0,I L a1_1,I L a1_2]] w fun e w'=>e=.returned (.agg #[I L r1,I L r2,I L r3])∧Below w.heap.size w w':=by
 have hu31 := Try.underlying31
 have HB := D (Below.refl w.heap.size w)
 have H : (some (mx a0_0 a1_0, mx a0_1 a1_1, mx a0_2 a1_2)) = some (r1, r2, r3) := h
 clear h
 obtain ⟨ji3, hji3⟩ : ∃ j_ : Int, (mx a0_0 a1_0) = j_ := ⟨_, rfl⟩
 replace H : (some (ji3, mx a0_1 a1_1, mx a0_2 a1_2)) = some (r1, r2, r3) := by first | (rw [hji3] at H; exact H) | (simp only [hji3] at H ⊢; exact H)
 have hji3_ : (if a0_0 < a1_0 then a1_0 else a0_0) = ji3 := hji3
 obtain ⟨ji4, hji4⟩ : ∃ j_ : Int, (mx a0_1 a1_1) = j_ := ⟨_, rfl⟩
 replace H : (some (ji3, ji4, mx a0_2 a1_2)) = some (r1, r2, r3) := by first | (rw [hji4] at H; exact H) | (simp only [hji4] at H ⊢; exact H)
 have hji4_ : (if a0_1 < a1_1 then a1_1 else a0_1) = ji4 := hji4
 obtain ⟨ji5, hji5⟩ : ∃ j_ : Int, (mx a0_2 a1_2) = j_ := ⟨_, rfl⟩
 replace H : (some (ji3, ji4, ji5)) = some (r1, r2, r3) := by first | (rw [hji5] at H; exact H) | (simp only [hji5] at H ⊢; exact H)
 have hji5_ : (if a0_2 < a1_2 then a1_2 else a0_2) = ji5 := hji5
 simp only [Option.some.injEq, Prod.mk.injEq] at H
 obtain ⟨rfl, rfl, rfl⟩ := H
 go_enter Try.func34, Try.ntmps34
 go_wp2_with (first|((with_reducible refine gate_dst (N:=2) rfl ?_);refine bx_ (N:=2) (cs:=#[I L a0_0,I L a0_1,I L a0_2]) (t:=31) ?_;intro gb164 hg w6 hbox hb;have n_:=an_ (below_step (pB_ HB.out) hb)<|an_ (hbox)<|an_ (bg_ hg (pB_ HB.out):w.heap.size≤gb164)<|D (bg_ hg (pB_ HB.out):w.heap.size≤gb164);clear HB;obtain ⟨HB,BK164,GW164,GE164⟩:=n_;clear hb hbox hg)|((with_reducible refine gate_dst (N:=3) rfl ?_);refine bx_ (N:=3) (cs:=#[I L a1_0,I L a1_1,I L a1_2]) (t:=31) ?_;intro gb165 hg w7 hbox hb;have n_:=an_ (blk_below (pk_ BK164.out) hb)<|an_ (below_step (pB_ HB.out) hb)<|an_ (hbox)<|an_ (bg_ hg (pB_ HB.out):w.heap.size≤gb165)<|an_ (bg_ hg (pB_ HB.out):w.heap.size≤gb165)<|an_ ((by rw [hg];exact Nat.ne_of_lt (blk_lt (pk_ BK164.out)):gb164≠gb165))<|D (by rw [hg];exact Nat.ne_of_gt (blk_lt (pk_ BK164.out)):gb165≠gb164);clear BK164 HB;obtain ⟨BK164,HB,BK165,GW165,GE165,NB164_165,NB165_164⟩:=n_;clear hb hbox hg)|((with_reducible refine gate_dst (N:=4) rfl ?_);refine bx_ (N:=4) (cs:=#[I L 0,I L 0,I L 0]) (t:=31) ?_;intro gb166 hg w8 hbox hb;have n_:=an_ (blk_below (pk_ BK164.out) hb)<|an_ (blk_below (pk_ BK165.out) hb)<|an_ (below_step (pB_ HB.out) hb)<|an_ (hbox)<|an_ (bg_ hg (pB_ HB.out):w.heap.size≤gb166)<|an_ (bg_ hg (pB_ HB.out):w.heap.size≤gb166)<|an_ ((by rw [hg];exact Nat.ne_of_lt (blk_lt (pk_ BK164.out)):gb164≠gb166))<|an_ ((by rw [hg];exact Nat.ne_of_gt (blk_lt (pk_ BK164.out)):gb166≠gb164))<|an_ ((by rw [hg];exact Nat.ne_of_lt (blk_lt (pk_ BK165.out)):gb165≠gb166))<|D (by rw [hg];exact Nat.ne_of_gt (blk_lt (pk_ BK165.out)):gb166≠gb165);clear BK164 BK165 HB;obtain ⟨BK164,BK165,HB,BK166,GW166,GE166,NB164_166,NB166_164,NB165_166,NB166_165⟩:=n_;clear hb hbox hg;(try have hnb9:=NB164_165.out);(try have hnc9:=NB165_164.out);(try have hnb10:=NB164_166.out);(try have hnc10:=NB166_164.out);obtain ⟨hcz11_0,hcz11_1,hcz11_2,hfz11_0,hfz11_1,hfz11_2⟩:=cells3 BK164.out;(try have hnb12:=NB165_166.out);(try have hnc12:=NB166_165.out);obtain ⟨hcz13_0,hcz13_1,hcz13_2,hfz13_0,hfz13_1,hfz13_2⟩:=cells3 BK165.out;obtain ⟨hcz14_0,hcz14_1,hcz14_2,hfz14_0,hfz14_1,hfz14_2⟩:=cells3 BK166.out))
 refine bodyPost_ret (results_cell_row rfl _ _ gb166 31 #[I L ji3,I L ji4,I L ji5] (0,0) _ rfl (by exact pP_ BK166.out) Try.underlying31 rfl (by kernel_rfl)) rfl ?_
 exact ⟨by first|rfl|(simp [errW_none,errW_some] <;> rfl)|(simp only [← hji3,← hji4,← hji5];first|rfl|(simp [errW_none,errW_some] <;> rfl))|(simp [*,errW_none,errW_some] <;> rfl),pB_ HB.out⟩

/-! ### spec_FairWake: function 15 -/
def spec_FairWake.f (k : Nat) (a0_0 a0_1 a0_2 a0_3 : Int) (l0_4 : List (S52)) (a1 : Int) : Option (Int × Int × Int × Int × (List (S52)) × Int) := (spec_FairOk.f k a0_0 a0_1 a0_2 a0_3 l0_4).bind fun t169 => (if t169 = true then ((spec_l18At.f k a0_0 a0_1 a0_2 a0_3 l0_4 a1).bind fun t170 => (if t170 < 0 then (some (0, 0, 0, 0, ([] : List (S52)), 4)) else (if 0 ≤ t170 then (if t170 < (l0_4.length : Int) then (if (rd_T52 l0_4 t170).f2 = true then (some (0, 0, 0, 0, ([] : List (S52)), 2)) else ((spec_l18Copy.f a0_0 a0_1 a0_2 a0_3 l0_4).bind fun bt172 => (if t170 < (bt172.2.2.2.2.length : Int) then ((some (bt172.2.2.2.2.set (t170 : Int).toNat (⟨(rd_T52 bt172.2.2.2.2 t170).f0, (rd_T52 bt172.2.2.2.2 t170).f1, true, (⟨(rd_T52 bt172.2.2.2.2 t170).f3.f0, (rd_T52 bt172.2.2.2.2 t170).f3.f1, (rd_T52 bt172.2.2.2.2 t170).f3.f2⟩ : S31)⟩ : S52) : List (S52))).bind fun y180 => ((spec_VecMost.f ((rd_T52 l0_4 t170).f3.f0) ((rd_T52 l0_4 t170).f3.f1) ((rd_T52 l0_4 t170).f3.f2) a0_1 a0_2 a0_3).bind fun bt182 => (some (bt172.1, bt172.2.1, bt172.2.2.1, bt172.2.2.2.1, (y180.set (t170 : Int).toNat (⟨(rd_T52 y180 t170).f0, (rd_T52 y180 t170).f1, (rd_T52 y180 t170).f2, (⟨bt182.1, bt182.2.1, bt182.2.2⟩ : S31)⟩ : S52)), 0)))) else (none)))) else (none)) else (none)))) else (some (0, 0, 0, 0, ([] : List (S52)), 1)))
def spec_FairWake.T10 : Bool × List (List Nat × List Nat) := (true, [([], []), ([0], [0]), ([], []), ([], []), ([3], [3]), ([], []), ([4, 5], [4, 5]), ([6], [6]), ([7], [7]), ([], []), ([9], [9]), ([8, 10], [8, 10]), ([1, 2, 0, 1, 2, 3, 4, 5, 6, 7, 8, 9, 10, 11], [1, 2]), ([12, 0, 1, 2, 3, 4, 5, 6, 7, 8, 9, 10, 11], [12]), ([13, 11, 11, 0, 1, 2, 3, 4, 5, 6, 7, 8, 9, 10, 11], [11, 13])])
def spec_FairWake.B10 : List Nat := [0, 1, 0, 0, 8, 0, 56, 120, 248, 0, 512, 2040, 4095, 8191, 16383]
theorem spec_FairWake.tab10 : rtab .any (opsOf Try.f15 10) = spec_FairWake.T10 := by kernel_rfl
theorem spec_FairWake.bits10 : waitsOk spec_FairWake.T10.2 spec_FairWake.B10 = true := by kernel_rfl
set_option maxHeartbeats 8000000 in
set_option maxRecDepth 100000 in
theorem spec_FairWake.calls (k : Nat) (a0_0 a0_1 a0_2 a0_3 : Int) (A0_4 : Option Addr) (c0_4 : Nat) (l0_4 : List (S52)) (a1 r1 r2 r3 r4 : Int) (r5 : List (S52)) (r6 : Int) (w : World) (hr0_4 : Kd.C k52 w A0_4 l0_4.length l0_4) (hc0_4 : l0_4.length ≤ c0_4) (h : spec_FairWake.f k a0_0 a0_1 a0_2 a0_3 l0_4 a1 = some (r1, r2, r3, r4, r5, r6)) :
  Calls Try.prog 15 #[.agg #[I L a0_0,I L a0_1,I L a0_2,I L a0_3,Y A0_4 l0_4.length c0_4],I L a1] w fun e w'=>∃ v4_:Value,e=.returned (.tuple #[.agg #[I L r1,I L r2,I L r3,I L r4,v4_],I L r6])∧Kd.R k52 52 w' w.heap.size (fun _=>True) v4_ r5∧Below w.heap.size w w':=by
 have hu34 := Try.underlying34
 have hu31 := Try.underlying31
 have HR0_4 := D hr0_4
 have HC0_4 := D hc0_4
 clear hr0_4 hc0_4
 have HB := D (Below.refl w.heap.size w)
 have H:((spec_FairOk.f k a0_0 a0_1 a0_2 a0_3 l0_4).bind fun Xd=>(if Xd=true then ((spec_l18At.f k a0_0 a0_1 a0_2 a0_3 l0_4 a1).bind fun Ja=>(if Ja < 0 then (some (0,0,0,0,([]:List (S52)),4)) else (if 0≤Ja then (if Ja < (l0_4.length:Int) then (if (rd_T52 l0_4 Ja).f2=true then (some (0,0,0,0,([]:List (S52)),2)) else ((spec_l18Copy.f a0_0 a0_1 a0_2 a0_3 l0_4).bind fun bt172=>(if Ja < (bt172.2.2.2.2.length:Int) then ((some (bt172.2.2.2.2.set (Ja:Int).toNat (⟨(rd_T52 bt172.2.2.2.2 Ja).f0,(rd_T52 bt172.2.2.2.2 Ja).f1,true,(⟨(rd_T52 bt172.2.2.2.2 Ja).f3.f0,(rd_T52 bt172.2.2.2.2 Ja).f3.f1,(rd_T52 bt172.2.2.2.2 Ja).f3.f2⟩:S31)⟩:S52):List (S52))).bind fun y180=>((spec_VecMost.f ((rd_T52 l0_4 Ja).f3.f0) ((rd_T52 l0_4 Ja).f3.f1) ((rd_T52 l0_4 Ja).f3.f2) a0_1 a0_2 a0_3).bind fun bt182=>(some (bt172.1,bt172.2.1,bt172.2.2.1,bt172.2.2.2.1,(y180.set (Ja:Int).toNat (⟨(rd_T52 y180 Ja).f0,(rd_T52 y180 Ja).f1,(rd_T52 y180 Ja).f2,(⟨bt182.1,bt182.2.1,bt182.2.2⟩:S31)⟩:S52)),0)))) else (none)))) else (none)) else (none)))) else (some (0,0,0,0,([]:List (S52)),1))))=some (r1,r2,r3,r4,r5,r6):=h
 clear h
 obtain ⟨Xd, A30, H⟩ := bs_.mp H
 (try dsimp only at H)
 have A3 := D A30
 clear A30
 have HU4 := D H
 clear H
 go_enter Try.func15, Try.ntmps15
 go_upto_if 10 with (first|((with_reducible refine gate_dst (N:=2) rfl ?_);refine bx_ (N:=2) (cs:=#[I L a0_0,I L a0_1,I L a0_2,I L a0_3,Y A0_4 l0_4.length c0_4]) (t:=34) ?_;intro Mb hg w5 hbox hb;have n_:=an_ (below_step (pB_ HB.out) hb)<|an_ (hbox)<|an_ (bg_ hg (pB_ HB.out):w.heap.size≤Mb)<|D (bg_ hg (pB_ HB.out):w.heap.size≤Mb);clear HB;obtain ⟨HB,Ka,Jf,Ke⟩:=n_;clear hb hbox hg)|((with_reducible refine gate_dst (N:=4) rfl ?_);refine bx_ (N:=4) (cs:=#[I L 0,I L 0,I L 0,I L 0,Y none 0 0]) (t:=34) ?_;intro Jc hg w6 hbox hb;have n_:=an_ (blk_below (pk_ Ka.out) hb)<|an_ (below_step (pB_ HB.out) hb)<|an_ (hbox)<|an_ (bg_ hg (pB_ HB.out):w.heap.size≤Jc)<|an_ (bg_ hg (pB_ HB.out):w.heap.size≤Jc)<|an_ ((by rw [hg];exact Nat.ne_of_lt (blk_lt (pk_ Ka.out)):Mb≠Jc))<|D (by rw [hg];exact Nat.ne_of_gt (blk_lt (pk_ Ka.out)):Jc≠Mb);clear Ka HB;obtain ⟨Ka,HB,Ua,Kf,Me,Xc,Jd⟩:=n_;clear hb hbox hg;(try have hnb7:=Xc.out);(try have hnc7:=Jd.out);obtain ⟨Mf,Of,Uf,Xf,Jg,Kg,Mg,Og,Ug,Xg⟩:=cells5 Ka.out)|((with_reducible refine gate_callee (f:=30) rfl ?_);refine goesL_ (some 9) rfl rfl Try.func30 (by kernel_rfl) rfl #[.agg #[I L a0_0,I L a0_1,I L a0_2,I L a0_3,Y A0_4 l0_4.length c0_4]] rfl Z13 ?_;(with_reducible refine (spec_FairOk.calls k a0_0 a0_1 a0_2 a0_3 _ _ l0_4 Xd _ ?side1 ?side2 A3.out).mono ?_);(case side1=>exact pC_ (Kd.C_below HR0_4.out HB.out));(case side2=>exact HC0_4.out);rintro e w9 ⟨rfl,hb⟩;refine ⟨_,rfl,?_⟩;have n_:=an_ (blk_below (pk_ Ka.out) hb)<|an_ (blk_below (pk_ Ua.out) hb)<|D (below_step (pB_ HB.out) hb);clear Ka Ua HB;obtain ⟨Ka,Ua,HB⟩:=n_;(try clear hb)))
 have H := HU4.out
 clear HU4
 by_cases c10 : Xd = true
 ·subst c10
  rw [if_pos rfl] at H;obtain ⟨Ja,A110,H⟩:=bs_.mp H;(try dsimp only at H);have A11:=D A110;clear A110;have HU12:=D H;clear H;(try have hnb13:=Xc.out);(try have hnc13:=Jd.out);obtain ⟨Jh,Kh,Mh,Oh,Uh,Xh,Ji,Ki,Mi,Oi⟩:=cells5 Ka.out
  go_upto_if 16 with (first|((with_reducible refine gate_callee (f:=32) rfl ?_);refine goesL_ (some 14) rfl rfl Try.func32 (by kernel_rfl) rfl #[.agg #[I L a0_0,I L a0_1,I L a0_2,I L a0_3,Y A0_4 l0_4.length c0_4],I L a1] rfl Z13 ?_;(with_reducible refine (spec_l18At.calls k a0_0 a0_1 a0_2 a0_3 _ _ l0_4 a1 Ja _ ?side1 ?side2 A11.out).mono ?_);(case side1=>exact pC_ (Kd.C_below HR0_4.out HB.out));(case side2=>exact HC0_4.out);rintro e w15 ⟨rfl,hb⟩;refine ⟨_,rfl,?_⟩;have n_:=an_ (blk_below (pk_ Ka.out) hb)<|an_ (blk_below (pk_ Ua.out) hb)<|D (below_step (pB_ HB.out) hb);clear Ka Ua HB;obtain ⟨Ka,Ua,HB⟩:=n_;(try clear hb)))
  have H := HU12.out; clear HU12
  by_cases c16 : Ja < 0
  ·rw [if_pos c16] at H
   have c16b0:decide (Ja < 0)=true:=decide_eq_true c16;clear c16;refine rw_ c16b0 ?_;simp only [Option.some.injEq,Prod.mk.injEq] at H;obtain ⟨rfl,rfl,rfl,rfl,rfl,rfl⟩:=H;(try have hnb17:=Jd.out);(try have hnc17:=Xc.out);obtain ⟨Ui,Xi,Jj,Kj,Mj,Oj,Uj,Xj,Jk,Kk⟩:=cells5 Ua.out
   go_wp2
   refine bodyPost_ret (results_ct rfl _ _ Jc 34 #[I L 0,I L 0,I L 0,I L 0,Y none 0 0] (0,0) _ rfl Z4 Try.underlying34 rfl (by kernel_rfl)) rfl ?_;exact ⟨_,er_,by first|exact Kd.R_nil _ _ _ _ _|exact Kd.N_nil _ _ _ _ _|exact Kd.V_nil _ _ _ _ _|exact Kd.Q_nil _ _ _ _ _|exact Kd.S_nil _ _ _ _ _,pB_ HB.out⟩
  ·rw [if_neg c16] at H
   have c16b0:decide (Ja < 0)=false:=decide_eq_false c16;clear c16;refine rw_ c16b0 ?_
   by_cases c19 : 0 ≤ Ja
   ·rw [if_pos c19] at H
    have c19b0 : decide (0 ≤ Ja) = true := decide_eq_true c19; clear c19
    by_cases c20 : Ja < (l0_4.length : Int)
    ·rw [if_pos c20] at H
     have c20b0:decide (Ja < (l0_4.length:Int))=true:=decide_eq_true c20;clear c20;have HU21:=D H;clear H;(try have hnb22:=Xc.out);(try have hnc22:=Jd.out);obtain ⟨Mk,Ok,Uk,Xk,Jm,Km,Mm,Om,Um,Xm⟩:=cells5 Ka.out;have p171:0≤(Ja:Int):=od_ Z60;have q171:Ja < (l0_4.length:Int):=od_ Z60;obtain ⟨ad171,e171,hx171_0,hx171_1,hx171_2,hx171_3,hx171_4,hx171_5⟩:=at_T52 HR0_4.out Ja p171 q171;cases e171;replace hx171_0:=rc_ HB.out hx171_0;replace hx171_1:=rc_ HB.out hx171_1;replace hx171_2:=rc_ HB.out hx171_2;replace hx171_3:=rc_ HB.out hx171_3;replace hx171_4:=rc_ HB.out hx171_4;replace hx171_5:=rc_ HB.out hx171_5;replace p171:=eq_true p171;replace q171:=eq_true q171
     go_upto_if 23 with (fail)
     have H := HU21.out; clear HU21; obtain ⟨bq24, hbq24⟩ : ∃ b_ : Bool, b_ = ((rd_T52 l0_4 Ja).f2) := ⟨_, rfl⟩
     replace H:(if bq24=true then (some (0,0,0,0,([]:List (S52)),2)) else ((spec_l18Copy.f a0_0 a0_1 a0_2 a0_3 l0_4).bind fun bt172=>(if Ja < (bt172.2.2.2.2.length:Int) then ((some (bt172.2.2.2.2.set (Ja:Int).toNat (⟨(rd_T52 bt172.2.2.2.2 Ja).f0,(rd_T52 bt172.2.2.2.2 Ja).f1,true,(⟨(rd_T52 bt172.2.2.2.2 Ja).f3.f0,(rd_T52 bt172.2.2.2.2 Ja).f3.f1,(rd_T52 bt172.2.2.2.2 Ja).f3.f2⟩:S31)⟩:S52):List (S52))).bind fun y180=>((spec_VecMost.f ((rd_T52 l0_4 Ja).f3.f0) ((rd_T52 l0_4 Ja).f3.f1) ((rd_T52 l0_4 Ja).f3.f2) a0_1 a0_2 a0_3).bind fun bt182=>(some (bt172.1,bt172.2.1,bt172.2.2.1,bt172.2.2.2.1,(y180.set (Ja:Int).toNat (⟨(rd_T52 y180 Ja).f0,(rd_T52 y180 Ja).f1,(rd_T52 y180 Ja).f2,(⟨bt182.1,bt182.2.1,bt182.2.2⟩:S31)⟩:S52)),0)))) else (none))))=some (r1,r2,r3,r4,r5,r6):=by rw [← hbq24] at H;exact H
     have Nbq24 := D hbq24; clear hbq24; (try rw [← Nbq24.out])
     by_cases c25 : bq24 = true
     ·subst c25
      rw [if_pos rfl] at H;simp only [Option.some.injEq,Prod.mk.injEq] at H;obtain ⟨rfl,rfl,rfl,rfl,rfl,rfl⟩:=H;(try have hnb26:=Jd.out);(try have hnc26:=Xc.out);obtain ⟨Jn,Kn,Mn,On,Un,Xn,Jo,Ko,Mo,Oo⟩:=cells5 Ua.out
      go_wp2
      refine bodyPost_ret (results_ct rfl _ _ Jc 34 #[I L 0,I L 0,I L 0,I L 0,Y none 0 0] (0,0) _ rfl Z4 Try.underlying34 rfl (by kernel_rfl)) rfl ?_;exact ⟨_,er_,by first|exact Kd.R_nil _ _ _ _ _|exact Kd.N_nil _ _ _ _ _|exact Kd.V_nil _ _ _ _ _|exact Kd.Q_nil _ _ _ _ _|exact Kd.S_nil _ _ _ _ _,pB_ HB.out⟩
     ·replace c25 := Bool.eq_false_iff.mpr c25
      subst c25;rw [if_neg (show ¬ (false=true) by decide)] at H;obtain ⟨⟨Kb,Ob,Ub,Xb,Oa⟩,A280,H⟩:=bs_.mp H;(try dsimp only at H);have A28:=D A280;clear A280
      by_cases c29 : Ja < (Oa.length : Int)
      ·rw [if_pos c29] at H
       have c29b0:decide (Ja < (Oa.length:Int))=true:=decide_eq_true c29;clear c29;obtain ⟨y180,hy180⟩:∃ y_:List (S52),y_=(Oa.set (Ja:Int).toNat (⟨(rd_T52 Oa Ja).f0,(rd_T52 Oa Ja).f1,true,(⟨(rd_T52 Oa Ja).f3.f0,(rd_T52 Oa Ja).f3.f1,(rd_T52 Oa Ja).f3.f2⟩:S31)⟩:S52)):=⟨_,rfl⟩
       replace H:((spec_VecMost.f ((rd_T52 l0_4 Ja).f3.f0) ((rd_T52 l0_4 Ja).f3.f1) ((rd_T52 l0_4 Ja).f3.f2) a0_1 a0_2 a0_3).bind fun bt182=>(some (Kb,Ob,Ub,Xb,(y180.set (Ja:Int).toNat (⟨(rd_T52 y180 Ja).f0,(rd_T52 y180 Ja).f1,(rd_T52 y180 Ja).f2,(⟨bt182.1,bt182.2.1,bt182.2.2⟩:S31)⟩:S52)),0)))=some (r1,r2,r3,r4,r5,r6):=by first|(rw [hy180];with_reducible exact H)|(have H2_:=(Option.bind_some _ _).symm.trans H;rw [hy180];with_reducible exact H2_)|(have H2_:=(Option.bind_some _ _).symm.trans H;with_reducible exact H2_)|with_reducible exact H|(rw [hy180];exact H)|exact H
       have Ny180:=D hy180;clear hy180;obtain ⟨⟨Mc,Oc,Uc⟩,A310,H⟩:=bs_.mp H;(try dsimp only at H);have A31:=D A310;clear A310;obtain ⟨y185,hy185⟩:∃ y_:List (S52),y_=(y180.set (Ja:Int).toNat (⟨(rd_T52 y180 Ja).f0,(rd_T52 y180 Ja).f1,(rd_T52 y180 Ja).f2,(⟨Mc,Oc,Uc⟩:S31)⟩:S52)):=⟨_,rfl⟩
       replace H:(some (Kb,Ob,Ub,Xb,y185,0))=some (r1,r2,r3,r4,r5,r6):=by first|(rw [hy185];with_reducible exact H)|(have H2_:=(Option.bind_some _ _).symm.trans H;rw [hy185];with_reducible exact H2_)|(have H2_:=(Option.bind_some _ _).symm.trans H;with_reducible exact H2_)|with_reducible exact H|(rw [hy185];exact H)|exact H
       have Ny185:=D hy185;clear hy185;simp only [Option.some.injEq,Prod.mk.injEq] at H;obtain ⟨rfl,rfl,rfl,rfl,rfl,rfl⟩:=H;(try have hnb33:=Xc.out);(try have hnc33:=Jd.out);obtain ⟨Uo,Xo,Jp,Kp,Mp,Op,Up,Xp,Jq,Kq⟩:=cells5 Ka.out
       try go_wp2_with (first|((with_reducible refine gate_callee (f:=33) rfl ?_);refine goesL_ (some 26) rfl rfl Try.func33 (by kernel_rfl) rfl #[.agg #[I L a0_0,I L a0_1,I L a0_2,I L a0_3,Y (some ad171) l0_4.length c0_4]] rfl Z13 ?_;(with_reducible refine (spec_l18Copy.calls a0_0 a0_1 a0_2 a0_3 _ _ l0_4 Kb Ob Ub Xb Oa _ ?side1 ?side2 A28.out).mono ?_);(case side1=>exact pC_ (Kd.C_below HR0_4.out HB.out));(case side2=>exact HC0_4.out);rintro e w35 ⟨Mq,rfl,ho0,hb⟩;refine ⟨_,rfl,?_⟩;have n_:=an_ (Kd.R_lower ho0 (below_size (pB_ HB.out)))<|an_ (blk_below (pk_ Ka.out) hb)<|an_ (blk_below (pk_ Ua.out) hb)<|D (below_step (pB_ HB.out) hb);clear Ka Ua HB;obtain ⟨Xa,Ka,Ua,HB⟩:=n_;(try clear hb);(try clear ho0))|((with_reducible refine gate_dst (N:=7) rfl ?_);refine bx_ (N:=7) (cs:=#[I L 0,I L 0,I L 0,I L 0,Y none 0 0]) (t:=34) ?_;intro Jb hg w36 hbox hb;have n_:=an_ (Kd.R_below (pR_ Xa.out) hb)<|an_ (blk_below (pk_ Ka.out) hb)<|an_ (blk_below (pk_ Ua.out) hb)<|an_ (below_step (pB_ HB.out) hb)<|an_ (hbox)<|an_ (bg_ hg (pB_ HB.out):w.heap.size≤Jb)<|an_ (bg_ hg (pB_ HB.out):w.heap.size≤Jb)<|an_ ((by rw [hg];exact Nat.ne_of_lt (blk_lt (pk_ Ka.out)):Mb≠Jb))<|an_ ((by rw [hg];exact Nat.ne_of_gt (blk_lt (pk_ Ka.out)):Jb≠Mb))<|an_ ((by rw [hg];exact Nat.ne_of_lt (blk_lt (pk_ Ua.out)):Jc≠Jb))<|D (by rw [hg];exact Nat.ne_of_gt (blk_lt (pk_ Ua.out)):Jb≠Jc);clear Xa Ka Ua HB;obtain ⟨Xa,Ka,Ua,HB,Ma,Oq,Oe,Md,Ue,Od,Xe⟩:=n_;clear hb hbox hg;(try have hnb37:=Ue.out);(try have hnc37:=Md.out);(try have hnb38:=Xe.out);(try have hnc38:=Od.out);obtain ⟨Uq,Xq,Jr,Kr,Mr,Or,Ur,Xr,Js,Ks⟩:=cells5 Ma.out;obtain ⟨Ud,Kc,eo40⟩:=Kd.R_slice Xa.out;subst eo40)|((with_reducible refine gate_store (t:=34) (p:=7) rfl ?_);refine store_event (t:=34) (p:=7) (v:=?vo_w41) (w1:=(((((w36.setCell ⟨Jb,0,none⟩ (I L Kb)).setCell ⟨Jb,1,none⟩ (I L Ob)).setCell ⟨Jb,2,none⟩ (I L Ub)).setCell ⟨Jb,3,none⟩ (I L Xb)).setCell ⟨Jb,4,none⟩ (Y Ud Oa.length Kc))) ?hg ?ho ?hn ?hr ?_;(case ho=>rfl);(case hg=>rfl);(case hn=>rfl);(case hr=>first|(go_simp;done)|(go_simp;rfl));intro w41 hw;have n0_:Aside0 (Kd.R k52 52 w41 w.heap.size (fun _=>True) (Y Ud Oa.length Kc) Oa):=⟨(by rw [hw];exact (rM_ (Kd.R_types Xa.out Ma.out (by decide)) (fun _ hk=>trivial)))⟩;have n1_:Aside0 (w41.heap[Mb]?=some (.cells #[I L a0_0,I L a0_1,I L a0_2,I L a0_3,Y (some ad171) l0_4.length c0_4] 34 (0,0))):=⟨(by rw [hw];exact (by exact pP_ Ka.out))⟩;have n2_:Aside0 (w41.heap[Jc]?=some (.cells #[I L 0,I L 0,I L 0,I L 0,Y none 0 0] 34 (0,0))):=⟨(by rw [hw];exact (by exact pP_ Ua.out))⟩;have n3_:Aside0 (w41.heap[Jb]?=some (.cells #[I L Kb,I L Ob,I L Ub,I L Xb,Y Ud Oa.length Kc] 34 (0,0))):=⟨(by rw [hw];exact (by exact pP_ Ma.out))⟩;have n4_:Aside0 (Below w.heap.size w w41):=⟨(by rw [hw];exact (pB_ HB.out))⟩;clear hw;clear Xa;clear Ka;clear Ua;clear Ma;clear HB;have Xa:=n0_;have Ka:=n1_;have Ua:=n2_;have Ma:=n3_;have HB:=n4_;clear n0_ n1_ n2_ n3_ n4_;obtain ⟨Ms,Os,Us,Xs,Ju,Ku,Mu,Ou,Uu,Xu⟩:=cells5 Ma.out;have p30:0≤(Ja:Int):=od_ Z60;have q30:(Ja:Int) < ((Oa.length:Int):Int):=od_ Z60;obtain ⟨go30,Jv,eo30,Je,gl30,cl30,HG30⟩:=Kd.R_form Xa.out (by omega);(first|cases eo30|(injection eo30 with ea_ en_ ec_;(first|subst ea_|(injection ea_ with ea_;subst ea_));subst ec_;clear en_));have GB30:=D Je;have GG30:=D HG30;clear Je gl30 HG30;obtain ⟨ce30,hcl30,hM30,hcc30,hfr30⟩:=Kd.R_elem Xa.out z52 (Ja:Int) p30 q30;obtain rfl:=k52_openM hM30;have hx30_0:w41.cell? ⟨go30,(Ja:Int).toNat * 6,none⟩=some (I L ((rd_T52 Oa Ja).f0)):=hcc30 0 _ rfl;have hx30_1:w41.cell? ⟨go30,(Ja:Int).toNat * 6 + 1,none⟩=some (I L ((rd_T52 Oa Ja).f1)):=hcc30 1 _ rfl;have hx30_2:w41.cell? ⟨go30,(Ja:Int).toNat * 6 + 2,none⟩=some (.bool ((rd_T52 Oa Ja).f2)):=hcc30 2 _ rfl;have hx30_3:w41.cell? ⟨go30,(Ja:Int).toNat * 6 + 3,none⟩=some (I L ((rd_T52 Oa Ja).f3.f0)):=hcc30 3 _ rfl;have hx30_4:w41.cell? ⟨go30,(Ja:Int).toNat * 6 + 4,none⟩=some (I L ((rd_T52 Oa Ja).f3.f1)):=hcc30 4 _ rfl;have hx30_5:w41.cell? ⟨go30,(Ja:Int).toNat * 6 + 5,none⟩=some (I L ((rd_T52 Oa Ja).f3.f2)):=hcc30 5 _ rfl;have hf30_0:w41.frozen? ⟨go30,(Ja:Int).toNat * 6,none⟩=false:=hfr30 0;have hf30_1:w41.frozen? ⟨go30,(Ja:Int).toNat * 6 + 1,none⟩=false:=hfr30 1;have hf30_2:w41.frozen? ⟨go30,(Ja:Int).toNat * 6 + 2,none⟩=false:=hfr30 2;have hf30_3:w41.frozen? ⟨go30,(Ja:Int).toNat * 6 + 3,none⟩=false:=hfr30 3;have hf30_4:w41.frozen? ⟨go30,(Ja:Int).toNat * 6 + 4,none⟩=false:=hfr30 4;have hf30_5:w41.frozen? ⟨go30,(Ja:Int).toNat * 6 + 5,none⟩=false:=hfr30 5;clear hcl30 hcc30 hfr30 hM30;replace p30:=eq_true p30;replace q30:=eq_true q30;have HX43:=D (show Kd.R k52 52 w41 w.heap.size (fun _=>True) (Y (some ⟨go30,0,none⟩) Oa.length Kc) Oa from (pR_ Xa.out));obtain ⟨ce43,hcl43,hM43,hcc43,hfr43⟩:=Kd.R_elem HX43.out z52 (Ja:Int) (od_ Z60) (by have h_:(Ja:Int) < ((Oa.length:Int):Int):=od_ Z60;first|exact h_|(have e_:=(Kd.R_reads' Xa.out).1;omega)|simpa using h_);obtain rfl:=k52_openM hM43;have HP43:=Kd.R_seg HX43.out (Ja:Int) (od_ Z60) (by have h_:(Ja:Int) < ((Oa.length:Int):Int):=od_ Z60;first|exact h_|(have e_:=(Kd.R_reads' Xa.out).1;omega)|simpa using h_) (seg:=[.bool true]) (j:=2) hcl43 hcc43 (show 3≤6 from by decide) (x':=(⟨(rd_T52 Oa Ja).f0,(rd_T52 Oa Ja).f1,true,(⟨(rd_T52 Oa Ja).f3.f0,(rd_T52 Oa Ja).f3.f1,(rd_T52 Oa Ja).f3.f2⟩:S31)⟩:S52)) (k52_mkM _ _ _ (⟨(rd_T52 Oa Ja).f0,(rd_T52 Oa Ja).f1,true,(⟨(rd_T52 Oa Ja).f3.f0,(rd_T52 Oa Ja).f3.f1,(rd_T52 Oa Ja).f3.f2⟩:S31)⟩:S52) ) (fun _ hk=>hk);have hx43_2:=hcc43 2 _ rfl;(try simp only [show (k52).sz=6 from rfl,Nat.mul_one,Nat.add_zero] at hx43_2);have hf43_2:=hfr43 2;(try simp only [show (k52).sz=6 from rfl,Nat.mul_one,Nat.add_zero] at hf43_2);clear hcl43 hcc43 hfr43 hM43)|((with_reducible refine gate_store (t:=4) (p:=31) rfl ?_);refine store_event (t:=4) (p:=31) (v:=?vo_w44) (w1:=(w41.setCell ⟨go30,(Ja:Int).toNat * 6 + 2,none⟩ (.bool true))) ?hg ?ho ?hn ?hr ?_;(case ho=>rfl);(case hg=>rfl);(case hn=>rfl);(case hr=>first|(go_simp;done)|(go_simp;rfl));intro w44 hw;have hg:w41.grownBy w44 (some go30):=(by rw [hw];exact HP43.2);have hp_:Kd.R k52 52 w44 w.heap.size (fun _=>True) (Y (some ⟨go30,0,none⟩) Oa.length Kc) y180:=(by rw [hw,Ny180.out];exact HP43.1);clear HP43;have n_:=an_ (blk_grown (pk_ Ka.out) hg (Kd.R_ne Xa.out Ka.out (by decide)))<|an_ (blk_grown (pk_ Ua.out) hg (Kd.R_ne Xa.out Ua.out (by decide)))<|an_ (hp_)<|an_ (blk_grown (pk_ Ma.out) hg (Kd.R_ne Xa.out Ma.out (by decide)))<|D (by rw [hw];exact below_set (HB.out) GB30.out:Below w.heap.size w w44);clear Ka Ua Xa Ma HB;obtain ⟨Ka,Ua,Xa,Ma,HB⟩:=n_;clear hg hw hp_))
       have n_ := an_ (Kd.R_drew Xa.out) <| an_ (blk_drew Ka.out) <| an_ (blk_drew Ua.out) <| an_ (blk_drew Ma.out) <| D (below_drew1 HB.out)
       clear Xa Ka Ua Ma HB;obtain ⟨Xa,Ka,Ua,Ma,HB⟩:=n_;have p181:0≤(Ja:Int):=od_ Z60;have q181:Ja < (l0_4.length:Int):=od_ Z60;obtain ⟨ad181,e181,hx181_0,hx181_1,hx181_2,hx181_3,hx181_4,hx181_5⟩:=at_T52 HR0_4.out Ja p181 q181;have hw181_5:=hx181_5;have hw181_4:=hx181_4;have hw181_3:=hx181_3;have hw181_2:=hx181_2;have hw181_1:=hx181_1;have hw181_0:=hx181_0;(try rw [← Nbq24.out] at hx181_2);(try rw [← Nbq24.out] at hw181_2);obtain rfl:ad171=ad181:=(by injection e181);replace hx181_0:=rc_ HB.out hx181_0;replace hx181_1:=rc_ HB.out hx181_1;replace hx181_2:=rc_ HB.out hx181_2;replace hx181_3:=rc_ HB.out hx181_3;replace hx181_4:=rc_ HB.out hx181_4;replace hx181_5:=rc_ HB.out hx181_5;replace p181:=eq_true p181;replace q181:=eq_true q181;refine start_ (n:=15) (S:=fun w'=>w'.cell? ⟨Jb,0,none⟩=some (I L Kb)∧w'.cell? ⟨Jb,1,none⟩=some (I L Ob)∧w'.cell? ⟨Jb,2,none⟩=some (I L Ub)∧w'.cell? ⟨Jb,3,none⟩=some (I L Xb)∧w'.cell? ⟨Jb,4,none⟩=some (Y (some ⟨go30,0,none⟩) Oa.length Kc)∧w'.cell? ⟨Mb,0,none⟩=some (I L a0_0)∧w'.cell? ⟨Mb,1,none⟩=some (I L a0_1)∧w'.cell? ⟨Mb,2,none⟩=some (I L a0_2)∧w'.cell? ⟨Mb,3,none⟩=some (I L a0_3)∧w'.cell? ⟨Mb,4,none⟩=some (Y (some ad171) l0_4.length c0_4)∧w'.cell? (ad171.add ((Ja).toNat * 6))=some (I L ((rd_T52 l0_4 Ja).f0))∧w'.cell? ⟨(ad171.add ((Ja).toNat * 6)).block,(ad171.add ((Ja).toNat * 6)).off + 1,none⟩=some (I L ((rd_T52 l0_4 Ja).f1))∧w'.cell? ⟨(ad171.add ((Ja).toNat * 6)).block,(ad171.add ((Ja).toNat * 6)).off + 2,none⟩=some (.bool (false))∧w'.cell? ⟨(ad171.add ((Ja).toNat * 6)).block,(ad171.add ((Ja).toNat * 6)).off + 3,none⟩=some (I L ((rd_T52 l0_4 Ja).f3.f0))∧w'.cell? ⟨(ad171.add ((Ja).toNat * 6)).block,(ad171.add ((Ja).toNat * 6)).off + 4,none⟩=some (I L ((rd_T52 l0_4 Ja).f3.f1))∧w'.cell? ⟨(ad171.add ((Ja).toNat * 6)).block,(ad171.add ((Ja).toNat * 6)).off + 5,none⟩=some (I L ((rd_T52 l0_4 Ja).f3.f2))) (ds:=[14]) (bz 15 0) (by kernel_rfl) rfl (by kernel_rfl) ⟨bc_ Ma.out 0,bc_ Ma.out 1,bc_ Ma.out 2,bc_ Ma.out 3,bc_ Ma.out 4,bc_ Ka.out 0,bc_ Ka.out 1,bc_ Ka.out 2,bc_ Ka.out 3,bc_ Ka.out 4,(rc_ HB.out hw181_0:),(rc_ HB.out hw181_1:),(rc_ HB.out hw181_2:),(rc_ HB.out hw181_3:),(rc_ HB.out hw181_4:),(rc_ HB.out hw181_5:)⟩ (fun hHeld=>?_);refine with_tabW spec_FairWake.tab10 spec_FairWake.bits10 (fun HT_ HW_=>?_);generalize w44.drew=w45 at Xa Ka Ua Ma HB hx181_0 hx181_1 hx181_2 hx181_3 hx181_4 hx181_5 hHeld ⊢;refine pb_ 0 ?_;refine pb_ 2 ?_;refine pb_ 3 ?_;refine pb_ 5 ?_;refine pb_ 9 ?_;refine tb_ 1 rfl rfl hHeld Z39 ?_;refine tb_ 4 rfl rfl hHeld Z39 ?_
       refine pb_ 6 ?_;refine pb_ 7 ?_;refine tb_ 8 rfl rfl hHeld Z39 ?_;refine tb_ 10 rfl rfl hHeld Z39 ?_;refine oa_ 11 43 15 4095 HT_ (fun K hK=>?_);refine goes_ Try.func34 (by kernel_rfl) rfl #[.agg #[I L ((rd_T52 l0_4 Ja).f3.f0),I L ((rd_T52 l0_4 Ja).f3.f1),I L ((rd_T52 l0_4 Ja).f3.f2)],.agg #[I L a0_1,I L a0_2,I L a0_3]] (by rfl) rfl rfl Z13 ?_;with_reducible refine (spec_VecMost.calls ((rd_T52 l0_4 Ja).f3.f0) ((rd_T52 l0_4 Ja).f3.f1) ((rd_T52 l0_4 Ja).f3.f2) a0_1 a0_2 a0_3 Mc Oc Uc _ A31.out).mono ?_
       rintro e w46 ⟨rfl, hb⟩; refine ⟨_, rfl, ?_⟩
       have n_ := an_ (Kd.R_below (pR_ Xa.out) hb) <| an_ (blk_below (pk_ Ka.out) hb) <| an_ (blk_below (pk_ Ua.out) hb) <| an_ (blk_below (pk_ Ma.out) hb) <| D (below_step (pB_ HB.out) hb)
       clear Xa Ka Ua Ma HB;obtain ⟨Xa,Ka,Ua,Ma,HB⟩:=n_;have p32:0≤(Ja:Int):=od_ Z60;have q32:(Ja:Int) < ((Oa.length:Int):Int):=od_ Z60;obtain ⟨ce32,hcl32,hM32,hcc32,hfr32⟩:=Kd.R_elem Xa.out z52 (Ja:Int) p32 q32;obtain rfl:=k52_openM hM32;have hx32_0:World.cell? _ ⟨go30,(Ja:Int).toNat * 6,none⟩=some (I L ((rd_T52 y180 Ja).f0)):=hcc32 0 _ rfl;have hx32_1:World.cell? _ ⟨go30,(Ja:Int).toNat * 6 + 1,none⟩=some (I L ((rd_T52 y180 Ja).f1)):=hcc32 1 _ rfl;have hx32_2:World.cell? _ ⟨go30,(Ja:Int).toNat * 6 + 2,none⟩=some (.bool ((rd_T52 y180 Ja).f2)):=hcc32 2 _ rfl;have hx32_3:World.cell? _ ⟨go30,(Ja:Int).toNat * 6 + 3,none⟩=some (I L ((rd_T52 y180 Ja).f3.f0)):=hcc32 3 _ rfl;have hx32_4:World.cell? _ ⟨go30,(Ja:Int).toNat * 6 + 4,none⟩=some (I L ((rd_T52 y180 Ja).f3.f1)):=hcc32 4 _ rfl;have hx32_5:World.cell? _ ⟨go30,(Ja:Int).toNat * 6 + 5,none⟩=some (I L ((rd_T52 y180 Ja).f3.f2)):=hcc32 5 _ rfl;have hf32_0:World.frozen? _ ⟨go30,(Ja:Int).toNat * 6,none⟩=false:=hfr32 0;have hf32_1:World.frozen? _ ⟨go30,(Ja:Int).toNat * 6 + 1,none⟩=false:=hfr32 1;have hf32_2:World.frozen? _ ⟨go30,(Ja:Int).toNat * 6 + 2,none⟩=false:=hfr32 2;have hf32_3:World.frozen? _ ⟨go30,(Ja:Int).toNat * 6 + 3,none⟩=false:=hfr32 3;have hf32_4:World.frozen? _ ⟨go30,(Ja:Int).toNat * 6 + 4,none⟩=false:=hfr32 4;have hf32_5:World.frozen? _ ⟨go30,(Ja:Int).toNat * 6 + 5,none⟩=false:=hfr32 5;clear hcl32 hcc32 hfr32 hM32;replace p32:=eq_true p32;replace q32:=eq_true q32;obtain ⟨ce47,hcl47,hM47,hcc47,hfr47⟩:=Kd.R_elem Xa.out z52 (Ja:Int) (od_ Z60) (by have h_:(Ja:Int) < ((Oa.length:Int):Int):=od_ Z60;first|exact h_|(have e_:=(Kd.R_reads' Xa.out).1;omega)|simpa using h_);obtain rfl:=k52_openM hM47;have HP47:=(Kd.R_seg Xa.out (Ja:Int) (od_ Z60) (by have h_:(Ja:Int) < ((Oa.length:Int):Int):=od_ Z60;first|exact h_|(have e_:=(Kd.R_reads' Xa.out).1;omega)|simpa using h_) (seg:=[I L Mc,I L Oc,I L Uc]) (j:=3) hcl47 hcc47 (show 6≤6 from by decide) (x':=(⟨(rd_T52 y180 Ja).f0,(rd_T52 y180 Ja).f1,(rd_T52 y180 Ja).f2,(⟨Mc,Oc,Uc⟩:S31)⟩:S52)) (k52_mkM _ _ _ (⟨(rd_T52 y180 Ja).f0,(rd_T52 y180 Ja).f1,(rd_T52 y180 Ja).f2,(⟨Mc,Oc,Uc⟩:S31)⟩:S52) ) (fun _ hk=>hk)).1;rw [← Ny185.out] at HP47;have HQ47:=D HP47;clear hcl47 hcc47 hfr47 hM47 HP47;refine hK.out _ _ ⟨bc_ Ma.out 0,bc_ Ma.out 1,bc_ Ma.out 2,bc_ Ma.out 3,bc_ Ma.out 4,bc_ Ka.out 0,bc_ Ka.out 1,bc_ Ka.out 2,bc_ Ka.out 3,bc_ Ka.out 4,(rc_ HB.out hw181_0:),(rc_ HB.out hw181_1:),(rc_ HB.out hw181_2:),(rc_ HB.out hw181_3:),(rc_ HB.out hw181_4:),(rc_ HB.out hw181_5:)⟩ (fun hHeld=>?_);clear hK K;refine nx_ (N:=some 43) ?_;refine pb_ 12 ?_;refine pb_ 13 ?_;refine last_ (i:=14) (N:=none) (bz 15 32767) rfl rfl (one_of HT_.out (by kernel_rfl)) (by decide) (fun K hK=>?_);refine skip_ (w1:=?_) (by rfl) rfl ?_ ?_;rotate_left
       ·go_simp
        rfl
       refine hK.out _ _ ?_;clear hK K;refine done_ (done_of HT_.out (by kernel_rfl)) ?_;obtain ⟨w48,hq_⟩:∃ W_,W_=(((w46.setCell ⟨go30,(Ja:Int).toNat * 6 + 3,none⟩ (I L Mc)).setCell ⟨go30,(Ja:Int).toNat * 6 + 4,none⟩ (I L Oc)).setCell ⟨go30,(Ja:Int).toNat * 6 + 5,none⟩ (I L Uc)):=⟨_,rfl⟩;have n0_:Aside0 (Kd.R k52 52 w48 w.heap.size (fun _=>True) (Y (some ⟨go30,0,none⟩) Oa.length Kc) y185):=⟨by rw [hq_];exact pR_ HQ47.out⟩;have n1_:Aside0 (w48.heap[Mb]?=some (.cells #[I L a0_0,I L a0_1,I L a0_2,I L a0_3,Y (some ad171) l0_4.length c0_4] 34 (0,0))):=⟨by rw [hq_];refine pk_ ?_;refine blk_far ?_ Z77 _;refine pk_ ?_;refine blk_far ?_ Z77 _;refine pk_ ?_;refine blk_far ?_ Z77 _;refine pk_ ?_;exact Ka.out⟩;have n2_:Aside0 (w48.heap[Jc]?=some (.cells #[I L 0,I L 0,I L 0,I L 0,Y none 0 0] 34 (0,0))):=⟨by rw [hq_];refine pk_ ?_;refine blk_far ?_ Z78 _;refine pk_ ?_;refine blk_far ?_ Z78 _;refine pk_ ?_;refine blk_far ?_ Z78 _;refine pk_ ?_;exact Ua.out⟩;have n3_:Aside0 (w48.heap[Jb]?=some (.cells #[I L Kb,I L Ob,I L Ub,I L Xb,Y (some ⟨go30,0,none⟩) Oa.length Kc] 34 (0,0))):=⟨by rw [hq_];refine pk_ ?_;refine blk_far ?_ Z79 _;refine pk_ ?_;refine blk_far ?_ Z79 _;refine pk_ ?_;refine blk_far ?_ Z79 _;refine pk_ ?_;exact Ma.out⟩;have n4_:Aside0 (Below w.heap.size w w48):=⟨by rw [hq_];repeat (first|(with_reducible first|exact HB.out|apply below_alloc|apply pw_below_drewN|apply below_drew1|refine below_set ?_ GB30.out|refine below_set ?_ GB30.out|refine below_set ?_ GB30.out|refine below_set ?_ Ke.out|refine below_set ?_ Me.out|refine below_set ?_ Oe.out)|exact HB.out)⟩;(try clear Xa);(try clear Ka);(try clear Ua);(try clear Ma);(try clear HB);(try rw [←hq_]);clear hq_;have Xa:=n0_;have Ka:=n1_;have Ua:=n2_;have Ma:=n3_;have HB:=n4_;clear n0_ n1_ n2_ n3_ n4_;obtain ⟨Kv,Mv,Ov,Uv,Xv,Jx,Kx,Mx,Ox,Ux⟩:=cells5 Ma.out;obtain ⟨Xx,Jy,Ky,My,Oy,Uy,Xy,Jz,Kz,Mz⟩:=cells5 Ua.out
       try go_wp2
       refine bodyPost_ret (results_ct rfl _ _ Jc 34 #[I L Kb,I L Ob,I L Ub,I L Xb,Y (some ⟨go30,0,none⟩) Oa.length Kc] (0,0) _ rfl (by exact pP_ Ua.out) Try.underlying34 rfl (by kernel_rfl)) rfl ?_;exact ⟨_,er_,by (with_reducible repeat (first|apply Kd.R_alloc|apply Kd.R_drewN|apply Kd.R_drew));exact Kd.R_mono (fr_ (fr_ (fr_ (fr_ (fr_ (Kd.R_types Xa.out Ua.out (by decide)) 0 (I L Kb)) 1 (I L Ob)) 2 (I L Ub)) 3 (I L Xb)) 4 (Y (some ⟨go30,0,none⟩) Oa.length Kc)) (fun _ hk=>trivial),pB_ HB.out⟩
      ·rw [if_neg c29] at H
       exact absurd H (by simp)
    ·rw [if_neg c20] at H
     exact absurd H (by simp)
   ·rw [if_neg c19] at H
    exact absurd H (by simp)
 ·replace c10 := Bool.eq_false_iff.mpr c10
  subst c10;rw [if_neg (show ¬ (false=true) by decide)] at H;simp only [Option.some.injEq,Prod.mk.injEq] at H;obtain ⟨rfl,rfl,rfl,rfl,rfl,rfl⟩:=H;(try have hnb51:=Jd.out);(try have hnc51:=Xc.out);obtain ⟨Oz,Uz,Xz,Ja1,Ka1,Ma1,Oa1,Ua1,Xa1,Jb1⟩:=cells5 Ua.out
  go_wp2
  refine bodyPost_ret (results_ct rfl _ _ Jc 34 #[I L 0,I L 0,I L 0,I L 0,Y none 0 0] (0,0) _ rfl Z4 Try.underlying34 rfl (by kernel_rfl)) rfl ?_;exact ⟨_,er_,by first|exact Kd.R_nil _ _ _ _ _|exact Kd.N_nil _ _ _ _ _|exact Kd.V_nil _ _ _ _ _|exact Kd.Q_nil _ _ _ _ _|exact Kd.S_nil _ _ _ _ _,pB_ HB.out⟩

end Go.Proofs.Ytolphjnajopknac.PFnExactTreeWake
