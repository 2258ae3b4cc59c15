-- by a program of this session's, over the kit's words
import Derived.Test.YtmloggnobgikdaaPZFnExactTreeCut
import Derived.Test.YtmloggnobgikdaaPFnExactTreeCutx0
namespace Go.Proofs.Ytmloggnobgikdaa.PFnExactTreeCut
open Go.RowKit Go.Proofs.YtmloggnobgikdaaW.PrintWords Go.Proofs.YtmloggnobgikdaaW.PrintLast Go.Proofs.YtmloggnobgikdaaW.PrintMore Go.Proofs.YtmloggnobgikdaaV Go.Proofs.Ytmloggnobgikdaa.ZFnExactTreeCut
open Go.Value renaming int → I, slice → Y
open Go.IntKind renaming i64 → L
open Aside0 renaming mk → D
open Option renaming bind_eq_some_iff → bs_
attribute [local go_sem] max2_int min2_int max_two min_two max_three min_three max_four min_four   -- for this text's walks alone
set_option linter.unusedVariables false
set_option linter.unusedSimpArgs false

/-! ### spec_l20At: function 14 -/
def spec_l20At.l0 : Nat → Int → Int → Int → Int → Int → Int → List (S57) → List (S50) → Option (Int)
 | 0, _, _, _, _, _, _, _, _ => none
 | k + 1,x1,x5,x153000,x153001,x153002,x153003,x153004,x153005=>if x5 < (x153005.length:Int) then (if 0≤x5 then (if ((rd_T50 x153005 x5).f0)=x1 then (some x5) else (spec_l20At.l0 k x1 (wrap64 (x5 + 1)) x153000 x153001 x153002 x153003 x153004 x153005)) else (none)) else (some (-1))
def spec_l20At.f (k : Nat) (a0_0 a0_1 a0_2 a0_3 : Int) (l0_4 : List (S57)) (l0_5 : List (S50)) (a1 : Int) : Option (Int) := spec_l20At.l0 k a1 0 a0_0 a0_1 a0_2 a0_3 l0_4 l0_5
set_option maxHeartbeats 8000000 in
set_option maxRecDepth 100000 in
theorem spec_l20At.calls (k : Nat) (a0_0 a0_1 a0_2 a0_3 : Int) (A0_4 : Option Addr) (c0_4 : Nat) (l0_4 : List (S57)) (A0_5 : Option Addr) (c0_5 : Nat) (l0_5 : List (S50)) (a1 r : Int) (w : World) (hr0_4 : Kd.C k57 w A0_4 l0_4.length l0_4) (hc0_4 : l0_4.length ≤ c0_4) (hr0_5 : Kd.C k50 w A0_5 l0_5.length l0_5) (hc0_5 : l0_5.length ≤ c0_5) (h : spec_l20At.f k a0_0 a0_1 a0_2 a0_3 l0_4 l0_5 a1 = some r) :
  Calls Try.prog 14 #[.agg #[I L a0_0,I L a0_1,I L a0_2,I L a0_3,Y A0_4 l0_4.length c0_4,Y A0_5 l0_5.length c0_5],I L a1] w fun e w'=>e=.returned (I L r)∧Below w.heap.size w w':=by
 have hu37 := Try.underlying37
 have HR0_4 := D hr0_4
 have HC0_4 := D hc0_4
 clear hr0_4 hc0_4
 have HR0_5 := D hr0_5
 have HC0_5 := D hc0_5
 clear hr0_5 hc0_5
 have HB := D (Below.refl w.heap.size w)
 have H : (spec_l20At.l0 k a1 0 a0_0 a0_1 a0_2 a0_3 l0_4 l0_5) = some r := h
 clear h
 have H' := D H
 clear H
 go_enter Try.func14, Try.ntmps14
 go_wp2_with (first|((with_reducible refine gate_dst (N:=2) rfl ?_);refine bx_ (N:=2) (cs:=#[I L a0_0,I L a0_1,I L a0_2,I L a0_3,Y A0_4 l0_4.length c0_4,Y A0_5 l0_5.length c0_5]) (t:=37) ?_;intro gb152 hg w3 hbox hb;have n_:=an_ (below_step (pB_ HB.out) hb)<|an_ (hbox)<|an_ (bg_ hg (pB_ HB.out):w.heap.size≤gb152)<|D (bg_ hg (pB_ HB.out):w.heap.size≤gb152);clear HB;obtain ⟨HB,BK152,GW152,GE152⟩:=n_;clear hb hbox hg))
 go_loopg [5] k (fun kq v5 w'=>∃ (x5_1:Int),v5=I L x5_1∧Aside0 (spec_l20At.l0 kq a1 x5_1 a0_0 a0_1 a0_2 a0_3 l0_4 l0_5=some r)∧Aside0 (kq≤k)∧Aside0 (w'.heap[gb152]?=some (.cells #[I L a0_0,I L a0_1,I L a0_2,I L a0_3,(Y A0_4 l0_4.length c0_4),(Y A0_5 l0_5.length c0_5)] 37 (0,0)))∧Aside0 (Below w.heap.size w w'))
 case atStart => exact ⟨(0), Z44, H', ⟨Nat.le_refl _⟩, ⟨pk_ BK152.out⟩, ⟨pB_ HB.out⟩⟩
 case round =>
  clear H'
  (try clear c1);(try clear p2)
  obtain ⟨x5_1, rfl, HA, HK1, BK152, HB⟩ := hrel
  cases gk with
  | zero => exact absurd HA.out (by simp [spec_l20At.l0])
  | succ k1 =>
   have H := HA.out; clear HA; simp only [spec_l20At.l0] at H
   by_cases c4 : x5_1 < (l0_5.length : Int)
   ·rw [if_pos c4] at H
    have c4b0 : decide (x5_1 < (l0_5.length : Int)) = true := decide_eq_true c4; clear c4
    by_cases c5 : 0 ≤ x5_1
    ·rw [if_pos c5] at H
     have c5b0:decide (0≤x5_1)=true:=decide_eq_true c5;clear c5;have HU6:=D H;clear H;have hcz7_0:=cells6 BK152.out;have p153:0≤(x5_1:Int):=od_ Z43;have q153:x5_1 < (l0_5.length:Int):=od_ Z43;obtain ⟨ad153,A153_5,c153_5,e153,hx153_0,hx153_1,hx153_2,hx153_3,hx153_4,hx153_5,hl153_5,hi153_5⟩:=at_T50 HR0_5.out x5_1 p153 q153;cases e153;replace hx153_0:=rc_ HB.out hx153_0;replace hx153_1:=rc_ HB.out hx153_1;replace hx153_2:=rc_ HB.out hx153_2;replace hx153_3:=rc_ HB.out hx153_3;replace hx153_4:=rc_ HB.out hx153_4;replace hx153_5:=rc_ HB.out hx153_5;have HR153_5:=D hi153_5;have HC153_5:=D hl153_5;clear hi153_5 hl153_5;replace p153:=eq_true p153;replace q153:=eq_true q153
     go_upto_if 20 with (fail)
     have H := HU6.out; clear HU6
     by_cases c8 : ((rd_T50 l0_5 x5_1).f0) = a1
     ·rw [if_pos c8] at H
      have c8b0:(((rd_T50 l0_5 x5_1).f0) == a1)=true:=beq_iff_eq.mpr c8;have c8b1:(((rd_T50 l0_5 x5_1).f0) != a1)=false:=bne_eq_false_iff_eq.mpr c8;clear c8;refine rw_ c8b0 ?_;obtain rfl:=Option.some.inj H
      go_wp2
      go_ret; exact ⟨er_, pB_ HB.out⟩
     ·rw [if_neg c8] at H
      have c8b0:(((rd_T50 l0_5 x5_1).f0) == a1)=false:=beq_eq_false_iff_ne.mpr c8;have c8b1:(((rd_T50 l0_5 x5_1).f0) != a1)=true:=bne_iff_ne.mpr c8;refine rw_ c8b0 ?_;have H':=D H;clear H
      go_wp2
      go_roundg k1
      case measure => have := HK1.out; omega
      case rel => exact ⟨(wrap64 (x5_1 + 1)), Z44, H', ⟨by have := HK1.out; omega⟩, ⟨pk_ BK152.out⟩, ⟨pB_ HB.out⟩⟩
    ·rw [if_neg c5] at H
     exact absurd H (by simp)
   ·rw [if_neg c4] at H
    have c4b0:decide (x5_1 < (l0_5.length:Int))=false:=decide_eq_false c4;clear c4;obtain rfl:=Option.some.inj H;have hcz9_0:=cells6 BK152.out
    go_wp2
    go_ret; exact ⟨er_, pB_ HB.out⟩

/-! ### spec_l18Copy: function 34 -/
def spec_l18Copy.f (a0_0 a0_1 a0_2 a0_3 : Int) (l0_4 : List (S57)) : Option (Int × Int × Int × Int × (List (S57))) := (some (([] : List (S57)) : List (S57))).bind fun y156 => (if y156.length + l0_4.length < 2932031007402 then (some (a0_0, a0_1, a0_2, a0_3, (y156 ++ l0_4))) else (none))
def spec_l18Copy.T1 : Bool × List (List Nat × List Nat) := (true, [([], []), ([0], [0]), ([], []), ([2], [2]), ([], []), ([], []), ([5], [5]), ([4, 6], [4, 6]), ([1, 3, 7], [1, 3, 7]), ([8, 7, 0, 1, 2, 3, 4, 5, 6, 7, 8], [8])])
def spec_l18Copy.B1 : List Nat := [0, 1, 0, 4, 0, 0, 32, 112, 255, 511]
theorem spec_l18Copy.tab1 : rtab .any (opsOf Try.f34 1) = spec_l18Copy.T1 := by kernel_rfl
theorem spec_l18Copy.bits1 : waitsOk spec_l18Copy.T1.2 spec_l18Copy.B1 = true := by kernel_rfl
set_option maxHeartbeats 8000000 in
set_option maxRecDepth 100000 in
theorem spec_l18Copy.calls (a0_0 a0_1 a0_2 a0_3 : Int) (A0_4 : Option Addr) (c0_4 : Nat) (l0_4 : List (S57)) (r1 r2 r3 r4 : Int) (r5 : List (S57)) (w : World) (hr0_4 : Kd.C k57 w A0_4 l0_4.length l0_4) (hc0_4 : l0_4.length ≤ c0_4) (h : spec_l18Copy.f a0_0 a0_1 a0_2 a0_3 l0_4 = some (r1, r2, r3, r4, r5)) :
  Calls Try.prog 34 #[.agg #[I L a0_0,I L a0_1,I L a0_2,I L a0_3,Y A0_4 l0_4.length c0_4]] w fun e w'=>∃ v4_:Value,e=.returned (.agg #[I L r1,I L r2,I L r3,I L r4,v4_])∧Kd.R k57 57 w' w.heap.size (fun _=>True) v4_ r5∧Below w.heap.size w w':=by
 have hu34 := Try.underlying34
 have hu31 := Try.underlying31
 have HR0_4 := D hr0_4
 have HC0_4 := D hc0_4
 clear hr0_4 hc0_4
 have HB := D (Below.refl w.heap.size w)
 have H:((some (([]:List (S57)):List (S57))).bind fun y156=>(if y156.length + l0_4.length < 2932031007402 then (some (a0_0,a0_1,a0_2,a0_3,(y156 ++ l0_4))) else (none)))=some (r1,r2,r3,r4,r5):=h
 clear h
 obtain ⟨y156, hy156⟩ : ∃ y_ : List (S57), y_ = (([] : List (S57))) := ⟨_, rfl⟩
 replace H:(if y156.length + l0_4.length < 2932031007402 then (some (a0_0,a0_1,a0_2,a0_3,(y156 ++ l0_4))) else (none))=some (r1,r2,r3,r4,r5):=by first|(rw [hy156];with_reducible exact H)|(have H2_:=(Option.bind_some _ _).symm.trans H;rw [hy156];with_reducible exact H2_)|(have H2_:=(Option.bind_some _ _).symm.trans H;with_reducible exact H2_)|with_reducible exact H|(rw [hy156];exact H)|exact H
 have Ny156 := D hy156
 clear hy156
 by_cases c2 : y156.length + l0_4.length < 2932031007402
 ·rw [if_pos c2] at H
  have LMc2 := D c2; clear c2; obtain ⟨y159, hy159⟩ : ∃ y_ : List (S57), y_ = (y156 ++ l0_4) := ⟨_, rfl⟩
  replace H:(some (a0_0,a0_1,a0_2,a0_3,y159))=some (r1,r2,r3,r4,r5):=by first|(rw [hy159];with_reducible exact H)|(have H2_:=(Option.bind_some _ _).symm.trans H;rw [hy159];with_reducible exact H2_)|(have H2_:=(Option.bind_some _ _).symm.trans H;with_reducible exact H2_)|with_reducible exact H|(rw [hy159];exact H)|exact H
  have Ny159 := D hy159; clear hy159; simp only [Option.some.injEq, Prod.mk.injEq] at H; obtain ⟨rfl, rfl, rfl, rfl, rfl⟩ := H; go_enter Try.func34, Try.ntmps34
  try go_wp2_with (first|((with_reducible refine gate_dst (N:=1) rfl ?_);refine bx_ (N:=1) (cs:=#[I L a0_0,I L a0_1,I L a0_2,I L a0_3,Y A0_4 l0_4.length c0_4]) (t:=34) ?_;intro gb154 hg w3 hbox hb;have n_:=an_ (below_step (pB_ HB.out) hb)<|an_ (hbox)<|an_ (bg_ hg (pB_ HB.out):w.heap.size≤gb154)<|D (bg_ hg (pB_ HB.out):w.heap.size≤gb154);clear HB;obtain ⟨HB,BK154,GW154,GE154⟩:=n_;clear hb hbox hg)|((with_reducible refine gate_dst (N:=2) rfl ?_);refine bx_ (N:=2) (cs:=#[I L 0,I L 0,I L 0,I L 0,Y none 0 0]) (t:=34) ?_;intro gb155 hg w4 hbox hb;have n_:=an_ (blk_below (pk_ BK154.out) hb)<|an_ (below_step (pB_ HB.out) hb)<|an_ (hbox)<|an_ (bg_ hg (pB_ HB.out):w.heap.size≤gb155)<|an_ (bg_ hg (pB_ HB.out):w.heap.size≤gb155)<|an_ (nl_ hg (pk_ BK154.out):gb154≠gb155)<|D (by rw [hg];exact Nat.ne_of_gt (blk_lt (pk_ BK154.out)):gb155≠gb154);clear BK154 HB;obtain ⟨BK154,HB,BK155,GW155,GE155,NB154_155,NB155_154⟩:=n_;clear hb hbox hg))
  have n_ := an_ (blk_drew BK154.out) <| an_ (blk_drew BK155.out) <| D (below_drew1 HB.out)
  clear BK154 BK155 HB;obtain ⟨BK154,BK155,HB⟩:=n_;refine start_ (n:=10) (S:=fun w'=>w'.cell? ⟨gb154,0,none⟩=some (I L a0_0)∧w'.cell? ⟨gb154,1,none⟩=some (I L a0_1)∧w'.cell? ⟨gb154,2,none⟩=some (I L a0_2)∧w'.cell? ⟨gb154,3,none⟩=some (I L a0_3)∧w'.cell? ⟨gb154,4,none⟩=some (Y A0_4 l0_4.length c0_4)) (ds:=[]) (bz 10 0) (by kernel_rfl) rfl (by kernel_rfl) (be5_ BK154.out) (fun hHeld=>?_);refine with_tabW spec_l18Copy.tab1 spec_l18Copy.bits1 (fun HT_ HW_=>?_);generalize w4.drew=w5 at BK154 BK155 HB hHeld ⊢;refine pb_ 0 ?_;refine pb_ 2 ?_;refine pb_ 5 ?_;refine tb_ 1 rfl rfl hHeld Z41 ?_;refine tb_ 3 rfl rfl hHeld Z41 ?_;refine tb_ 6 rfl rfl hHeld Z41 ?_;refine oa_ 4 7 10 127 HT_ (fun K hK=>?_);refine Kd.R_lit_step k57 _ 57 ?hg (N:=7) ?hd (xs:=([]:List (S57))) (inner:=[]) (ok:=fun _=>True) (okp:=fun _=>True) ?hr ?hp (fun _ hk=>hk) trivial (Below.refl _ _) (Nat.le_refl _) (by simp) ?_;(case hd=>rfl);(case hg=>rfl);(case hr=>first|(go_simp;done)|(go_simp;rfl));(case hp=>exact (Reps.none _ _));intro v157 w6 ho7 hb hg_ hnew_;clear hg_ hnew_;(first|rw [← Ny156.out] at ho7|(simp only [Int.reduceToNat] at ho7;rw [← Ny156.out] at ho7))
  have n_ := an_ (Kd.R_lower ho7 (below_size (pB_ HB.out))) <| an_ (blk_below (pk_ BK154.out) hb) <| an_ (blk_below (pk_ BK155.out) hb) <| D (below_step (pB_ HB.out) hb)
  clear BK154 BK155 HB;obtain ⟨HO158,BK154,BK155,HB⟩:=n_;clear hb ho7;refine hK.out _ _ (be5_ BK154.out) (fun hHeld=>?_);clear hK K;refine nx_ (N:=some 7) ?_;refine oa_ 7 10 10 255 HT_ (fun K hK=>?_);refine Kd.R_append_rows_step k57 (w0:=w) w.heap.size (by rfl) (.tmp 7) (.tmp 9) 32 57 (.agg #[(I L 0),(I L 0),(.bool false),(I L 0),(I L 0),(I L 0)]) 48 rfl Try.underlying32 info57 rfl (by decide) (by omega) v157 y156 l0_4 _ _ _ (fun _=>True) (fun _=>False) rfl rfl ?aO ?aR (fun _ _ h=>h) (fun _ h=>h.elim) ?aF ?aB ?aS ?aL ?_;(case aR=>exact pC_ (Kd.C_below HR0_4.out HB.out));(case aB=>exact (pB_ HB.out));(case aF=>exact (fun _ _=>trivial));(case aO=>exact (pR_ HO158.out));(case aS=>exact (below_size (pB_ HB.out)));(case aL=>have:=LMc2.out;omega);intro v160 w8 ho hb hg hat;rw [← Ny159.out] at ho
  have n_ := an_ (blk_grown (pk_ BK154.out) hg (Kd.R_ne HO158.out BK154.out (by decide))) <| an_ (blk_grown (pk_ BK155.out) hg (Kd.R_ne HO158.out BK155.out (by decide))) <| an_ (hb) <| D (ho)
  clear BK154 BK155 HB HO158;obtain ⟨BK154,BK155,HB,HO161⟩:=n_;clear ho hb hg hat;obtain ⟨Ao9,co9,eo9⟩:=Kd.R_slice HO161.out;(first|subst eo9|obtain ⟨rfl,rfl⟩:=sl_inj eo9);refine hK.out _ _ (be5_ BK154.out) (fun hHeld=>?_);clear hK K;refine nx_ (N:=some 10) ?_;refine pb_ 8 ?_;refine one_ (i:=9) (N:=none) (bz 10 1023) rfl rfl (one_of HT_.out (by kernel_rfl)) (by decide) (fun K hK=>?_);have hs10:w8.cell? ⟨gb155,0,none⟩=some (I L 0):=bc_ BK155.out 0;have hfs10:=blk_frozen BK155.out 0;have hns10_0:=NB154_155.out;have hms10_0:=NB155_154.out;have hs11:w8.cell? ⟨gb155,1,none⟩=some (I L 0):=bc_ BK155.out 1;have hfs11:=blk_frozen BK155.out 1;have hns11_0:=NB154_155.out;have hms11_0:=NB155_154.out;have hs12:w8.cell? ⟨gb155,2,none⟩=some (I L 0):=bc_ BK155.out 2;have hfs12:=blk_frozen BK155.out 2;have hns12_0:=NB154_155.out;have hms12_0:=NB155_154.out;have hs13:w8.cell? ⟨gb155,3,none⟩=some (I L 0):=bc_ BK155.out 3;have hfs13:=blk_frozen BK155.out 3;have hns13_0:=NB154_155.out;have hms13_0:=NB155_154.out;have hs14:w8.cell? ⟨gb155,4,none⟩=some (Y none 0 0):=bc_ BK155.out 4;have hfs14:=blk_frozen BK155.out 4;have hns14_0:=NB154_155.out;have hms14_0:=NB155_154.out;refine skip_ (w1:=?_) (by rfl) rfl ?_ ?_;rotate_left
  ·go_simp
   rfl
  refine hK.out _ _ ⟨(cF_ NB154_155.out (hHeld.1)),(cF_ NB154_155.out (hHeld.2.1)),(cF_ NB154_155.out (hHeld.2.2.1)),(cF_ NB154_155.out (hHeld.2.2.2.1)),(cF_ NB154_155.out (hHeld.2.2.2.2))⟩ (fun hHeld=>?_);clear hK K;refine done_ (done_of HT_.out (by kernel_rfl)) ?_
  try go_wp2
  refine bodyPost_ret (results_cell_row rfl _ _ gb155 34 #[I L a0_0,I L a0_1,I L a0_2,I L a0_3,Y Ao9 y159.length co9] (0,0) _ rfl (by exact pP_ BK155.out) Try.underlying34 rfl (by kernel_rfl)) rfl ?_;exact ⟨_,er_,by (with_reducible repeat (first|apply Kd.R_alloc|apply Kd.R_drewN|apply Kd.R_drew));exact Kd.R_mono (fr_ (fr_ (fr_ (fr_ (fr_ (Kd.R_types HO161.out BK155.out (by decide)) 0 (I L a0_0)) 1 (I L a0_1)) 2 (I L a0_2)) 3 (I L a0_3)) 4 (Y Ao9 y159.length co9)) (fun _ hk=>trivial),pB_ HB.out⟩
 ·rw [if_neg c2] at H
  exact absurd H (by simp)

end Go.Proofs.Ytmloggnobgikdaa.PFnExactTreeCut
