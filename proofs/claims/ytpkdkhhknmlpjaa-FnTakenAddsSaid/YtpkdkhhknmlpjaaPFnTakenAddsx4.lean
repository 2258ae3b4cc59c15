-- by a program of this session's, over the kit's words
import Derived.Test.YtpkdkhhknmlpjaaPZFnTakenAdds
import Derived.Test.YtpkdkhhknmlpjaaPFnTakenAddsx0
namespace Go.Proofs.Ytpkdkhhknmlpjaa.PFnTakenAdds
open Go.RowKit Go.Proofs.YtpkdkhhknmlpjaaW.PrintWords Go.Proofs.YtpkdkhhknmlpjaaW.PrintLast Go.Proofs.YtpkdkhhknmlpjaaW.PrintMore Go.Proofs.YtpkdkhhknmlpjaaV Go.Proofs.Ytpkdkhhknmlpjaa.ZFnTakenAdds
open Go.Value renaming int → I, slice → Y
open Go.IntKind renaming i64 → L
open Aside0 renaming mk → D
open Option renaming bind_eq_some_iff → bs_
attribute [local go_sem] max2_int min2_int max_two min_two max_three min_three max_four min_four   -- for this text's walks alone
set_option linter.unusedVariables false
set_option linter.unusedSimpArgs false

/-! ### spec_l18Copy: function 49 -/
def spec_l18Copy.f (a0_0 a0_1 a0_2 a0_3 : Int) (l0_4 : List (S83)) : Option (Int × Int × Int × Int × (List (S83))) := (some (([] : List (S83)) : List (S83))).bind fun y132 => (if y132.length + l0_4.length < 2932031007402 then (some (a0_0, a0_1, a0_2, a0_3, (y132 ++ l0_4))) else (none))
def spec_l18Copy.T1 : Bool × List (List Nat × List Nat) := (true, [([], []), ([0], [0]), ([], []), ([2], [2]), ([], []), ([], []), ([5], [5]), ([4, 6], [4, 6]), ([1, 3, 7], [1, 3, 7]), ([8, 7, 0, 1, 2, 3, 4, 5, 6, 7, 8], [8])])
def spec_l18Copy.B1 : List Nat := [0, 1, 0, 4, 0, 0, 32, 112, 255, 511]
theorem spec_l18Copy.tab1 : rtab .any (opsOf Try.f49 1) = spec_l18Copy.T1 := by kernel_rfl
theorem spec_l18Copy.bits1 : waitsOk spec_l18Copy.T1.2 spec_l18Copy.B1 = true := by kernel_rfl
set_option maxHeartbeats 8000000 in
set_option maxRecDepth 100000 in
theorem spec_l18Copy.calls (a0_0 a0_1 a0_2 a0_3 : Int) (A0_4 : Option Addr) (c0_4 : Nat) (l0_4 : List (S83)) (r1 r2 r3 r4 : Int) (r5 : List (S83)) (w : World) (hr0_4 : Kd.C k83 w A0_4 l0_4.length l0_4) (hc0_4 : l0_4.length ≤ c0_4) (h : spec_l18Copy.f a0_0 a0_1 a0_2 a0_3 l0_4 = some (r1, r2, r3, r4, r5)) :
  Calls Try.prog 49 #[.agg #[I L a0_0,I L a0_1,I L a0_2,I L a0_3,Y A0_4 l0_4.length c0_4]] w fun e w'=>∃ v4_:Value,e=.returned (.agg #[I L r1,I L r2,I L r3,I L r4,v4_])∧Kd.R k83 83 w' w.heap.size (fun _=>True) v4_ r5∧Below w.heap.size w w':=by
 have hu59 := Try.underlying59
 have hu29 := Try.underlying29
 have HR0_4 := D hr0_4
 have HC0_4 := D hc0_4
 clear hr0_4 hc0_4
 have HB := D (Below.refl w.heap.size w)
 have H:((some (([]:List (S83)):List (S83))).bind fun y132=>(if y132.length + l0_4.length < 2932031007402 then (some (a0_0,a0_1,a0_2,a0_3,(y132 ++ l0_4))) else (none)))=some (r1,r2,r3,r4,r5):=h
 clear h
 obtain ⟨y132, hy132⟩ : ∃ y_ : List (S83), y_ = (([] : List (S83))) := ⟨_, rfl⟩
 replace H:(if y132.length + l0_4.length < 2932031007402 then (some (a0_0,a0_1,a0_2,a0_3,(y132 ++ l0_4))) else (none))=some (r1,r2,r3,r4,r5):=by first|(rw [hy132];with_reducible exact H)|(have H2_:=(Option.bind_some _ _).symm.trans H;rw [hy132];with_reducible exact H2_)|(have H2_:=(Option.bind_some _ _).symm.trans H;with_reducible exact H2_)|with_reducible exact H|(rw [hy132];exact H)|exact H
 have Ny132 := D hy132
 clear hy132
 by_cases c2 : y132.length + l0_4.length < 2932031007402
 ·rw [if_pos c2] at H
  have LMc2 := D c2; clear c2; obtain ⟨y135, hy135⟩ : ∃ y_ : List (S83), y_ = (y132 ++ l0_4) := ⟨_, rfl⟩
  replace H:(some (a0_0,a0_1,a0_2,a0_3,y135))=some (r1,r2,r3,r4,r5):=by first|(rw [hy135];with_reducible exact H)|(have H2_:=(Option.bind_some _ _).symm.trans H;rw [hy135];with_reducible exact H2_)|(have H2_:=(Option.bind_some _ _).symm.trans H;with_reducible exact H2_)|with_reducible exact H|(rw [hy135];exact H)|exact H
  have Ny135 := D hy135; clear hy135; simp only [Option.some.injEq, Prod.mk.injEq] at H; obtain ⟨rfl, rfl, rfl, rfl, rfl⟩ := H; go_enter Try.func49, Try.ntmps49
  try go_wp2_with (first|((with_reducible refine gate_dst (N:=1) rfl ?_);refine bx_ (N:=1) (cs:=#[I L a0_0,I L a0_1,I L a0_2,I L a0_3,Y A0_4 l0_4.length c0_4]) (t:=59) ?_;intro gb130 hg w3 hbox hb;have n_:=an_ (below_step (pB_ HB.out) hb)<|an_ (hbox)<|an_ (bg_ hg (pB_ HB.out):w.heap.size≤gb130)<|D (bg_ hg (pB_ HB.out):w.heap.size≤gb130);clear HB;obtain ⟨HB,BK130,GW130,GE130⟩:=n_;clear hb hbox hg)|((with_reducible refine gate_dst (N:=2) rfl ?_);refine bx_ (N:=2) (cs:=#[I L 0,I L 0,I L 0,I L 0,Y none 0 0]) (t:=59) ?_;intro gb131 hg w4 hbox hb;have n_:=an_ (blk_below (pk_ BK130.out) hb)<|an_ (below_step (pB_ HB.out) hb)<|an_ (hbox)<|an_ (bg_ hg (pB_ HB.out):w.heap.size≤gb131)<|an_ (bg_ hg (pB_ HB.out):w.heap.size≤gb131)<|an_ (nl_ hg (pk_ BK130.out):gb130≠gb131)<|D (by rw [hg];exact Nat.ne_of_gt (blk_lt (pk_ BK130.out)):gb131≠gb130);clear BK130 HB;obtain ⟨BK130,HB,BK131,GW131,GE131,NB130_131,NB131_130⟩:=n_;clear hb hbox hg))
  have n_ := an_ (blk_drew BK130.out) <| an_ (blk_drew BK131.out) <| D (below_drew1 HB.out)
  clear BK130 BK131 HB;obtain ⟨BK130,BK131,HB⟩:=n_;refine start_ (n:=10) (S:=fun w'=>w'.cell? ⟨gb130,0,none⟩=some (I L a0_0)∧w'.cell? ⟨gb130,1,none⟩=some (I L a0_1)∧w'.cell? ⟨gb130,2,none⟩=some (I L a0_2)∧w'.cell? ⟨gb130,3,none⟩=some (I L a0_3)∧w'.cell? ⟨gb130,4,none⟩=some (Y A0_4 l0_4.length c0_4)) (ds:=[]) (bz 10 0) (by kernel_rfl) rfl (by kernel_rfl) (be5_ BK130.out) (fun hHeld=>?_);refine with_tabW spec_l18Copy.tab1 spec_l18Copy.bits1 (fun HT_ HW_=>?_);generalize w4.drew=w5 at BK130 BK131 HB hHeld ⊢;refine pb_ 0 ?_;refine pb_ 2 ?_;refine pb_ 5 ?_;refine tb_ 1 rfl rfl hHeld Z66 ?_;refine tb_ 3 rfl rfl hHeld Z66 ?_;refine tb_ 6 rfl rfl hHeld Z66 ?_;refine oa_ 4 7 10 127 HT_ (fun K hK=>?_);refine Kd.R_lit_step k83 _ 83 ?hg (N:=7) ?hd (xs:=([]:List (S83))) (inner:=[]) (ok:=fun _=>True) (okp:=fun _=>True) ?hr ?hp (fun _ hk=>hk) trivial (Below.refl _ _) (Nat.le_refl _) (by simp) ?_;(case hd=>rfl);(case hg=>rfl);(case hr=>first|(go_simp;done)|(go_simp;rfl));(case hp=>exact (Reps.none _ _));intro v133 w6 ho7 hb hg_ hnew_;clear hg_ hnew_;(first|rw [← Ny132.out] at ho7|(simp only [Int.reduceToNat] at ho7;rw [← Ny132.out] at ho7))
  have n_ := an_ (Kd.R_lower ho7 (below_size (pB_ HB.out))) <| an_ (blk_below (pk_ BK130.out) hb) <| an_ (blk_below (pk_ BK131.out) hb) <| D (below_step (pB_ HB.out) hb)
  clear BK130 BK131 HB;obtain ⟨HO134,BK130,BK131,HB⟩:=n_;clear hb ho7;refine hK.out _ _ (be5_ BK130.out) (fun hHeld=>?_);clear hK K;refine nx_ (N:=some 7) ?_;refine oa_ 7 10 10 255 HT_ (fun K hK=>?_);refine Kd.R_append_rows_step k83 (w0:=w) w.heap.size (by rfl) (.tmp 7) (.tmp 9) 57 83 (.agg #[(I L 0),(I L 0),(.bool false),(I L 0),(I L 0),(I L 0)]) 48 rfl Try.underlying57 info83 rfl (by decide) (by omega) v133 y132 l0_4 _ _ _ (fun _=>True) (fun _=>False) rfl rfl ?aO ?aR (fun _ _ h=>h) (fun _ h=>h.elim) ?aF ?aB ?aS ?aL ?_;(case aR=>exact pC_ (Kd.C_below HR0_4.out HB.out));(case aB=>exact (pB_ HB.out));(case aF=>exact (fun _ _=>trivial));(case aO=>exact (pR_ HO134.out));(case aS=>exact (below_size (pB_ HB.out)));(case aL=>have:=LMc2.out;omega);intro v136 w8 ho hb hg hat;rw [← Ny135.out] at ho
  have n_ := an_ (blk_grown (pk_ BK130.out) hg (Kd.R_ne HO134.out BK130.out (by decide))) <| an_ (blk_grown (pk_ BK131.out) hg (Kd.R_ne HO134.out BK131.out (by decide))) <| an_ (hb) <| D (ho)
  clear BK130 BK131 HB HO134;obtain ⟨BK130,BK131,HB,HO137⟩:=n_;clear ho hb hg hat;obtain ⟨Ao9,co9,eo9⟩:=Kd.R_slice HO137.out;(first|subst eo9|obtain ⟨rfl,rfl⟩:=sl_inj eo9);refine hK.out _ _ (be5_ BK130.out) (fun hHeld=>?_);clear hK K;refine nx_ (N:=some 10) ?_;refine pb_ 8 ?_;refine one_ (i:=9) (N:=none) (bz 10 1023) rfl rfl (one_of HT_.out (by kernel_rfl)) (by decide) (fun K hK=>?_);have hs10:w8.cell? ⟨gb131,0,none⟩=some (I L 0):=bc_ BK131.out 0;have hfs10:=blk_frozen BK131.out 0;have hns10_0:=NB130_131.out;have hms10_0:=NB131_130.out;have hs11:w8.cell? ⟨gb131,1,none⟩=some (I L 0):=bc_ BK131.out 1;have hfs11:=blk_frozen BK131.out 1;have hns11_0:=NB130_131.out;have hms11_0:=NB131_130.out;have hs12:w8.cell? ⟨gb131,2,none⟩=some (I L 0):=bc_ BK131.out 2;have hfs12:=blk_frozen BK131.out 2;have hns12_0:=NB130_131.out;have hms12_0:=NB131_130.out;have hs13:w8.cell? ⟨gb131,3,none⟩=some (I L 0):=bc_ BK131.out 3;have hfs13:=blk_frozen BK131.out 3;have hns13_0:=NB130_131.out;have hms13_0:=NB131_130.out;have hs14:w8.cell? ⟨gb131,4,none⟩=some (Y none 0 0):=bc_ BK131.out 4;have hfs14:=blk_frozen BK131.out 4;have hns14_0:=NB130_131.out;have hms14_0:=NB131_130.out;refine skip_ (w1:=?_) (by rfl) rfl ?_ ?_;rotate_left
  ·go_simp
   rfl
  refine hK.out _ _ ⟨(cF_ NB130_131.out (hHeld.1)),(cF_ NB130_131.out (hHeld.2.1)),(cF_ NB130_131.out (hHeld.2.2.1)),(cF_ NB130_131.out (hHeld.2.2.2.1)),(cF_ NB130_131.out (hHeld.2.2.2.2))⟩ (fun hHeld=>?_);clear hK K;refine done_ (done_of HT_.out (by kernel_rfl)) ?_
  try go_wp2
  refine bodyPost_ret (results_cell_row rfl _ _ gb131 59 #[I L a0_0,I L a0_1,I L a0_2,I L a0_3,Y Ao9 y135.length co9] (0,0) _ rfl (by exact pP_ BK131.out) Try.underlying59 rfl (by kernel_rfl)) rfl ?_;exact ⟨_,er_,by (with_reducible repeat (first|apply Kd.R_alloc|apply Kd.R_drewN|apply Kd.R_drew));exact Kd.R_mono (fr_ (fr_ (fr_ (fr_ (fr_ (Kd.R_types HO137.out BK131.out (by decide)) 0 (I L a0_0)) 1 (I L a0_1)) 2 (I L a0_2)) 3 (I L a0_3)) 4 (Y Ao9 y135.length co9)) (fun _ hk=>trivial),pB_ HB.out⟩
 ·rw [if_neg c2] at H
  exact absurd H (by simp)

/-! ### spec_l18At: function 68 -/
def spec_l18At.l0 : Nat → Int → Int → Int → Int → Int → Int → List (S83) → Option (Int)
 | 0, _, _, _, _, _, _, _ => none
 | k + 1,x1,x5,x139000,x139001,x139002,x139003,x139004=>if x5 < (x139004.length:Int) then (if 0≤x5 then (if ((rd_T83 x139004 x5).f0)=x1 then (some x5) else (spec_l18At.l0 k x1 (wrap64 (x5 + 1)) x139000 x139001 x139002 x139003 x139004)) else (none)) else (some (-1))
def spec_l18At.f (k : Nat) (a0_0 a0_1 a0_2 a0_3 : Int) (l0_4 : List (S83)) (a1 : Int) : Option (Int) := spec_l18At.l0 k a1 0 a0_0 a0_1 a0_2 a0_3 l0_4
set_option maxHeartbeats 8000000 in
set_option maxRecDepth 100000 in
theorem spec_l18At.calls (k : Nat) (a0_0 a0_1 a0_2 a0_3 : Int) (A0_4 : Option Addr) (c0_4 : Nat) (l0_4 : List (S83)) (a1 r : Int) (w : World) (hr0_4 : Kd.C k83 w A0_4 l0_4.length l0_4) (hc0_4 : l0_4.length ≤ c0_4) (h : spec_l18At.f k a0_0 a0_1 a0_2 a0_3 l0_4 a1 = some r) :
  Calls Try.prog 68 #[.agg #[I L a0_0,I L a0_1,I L a0_2,I L a0_3,Y A0_4 l0_4.length c0_4],I L a1] w fun e w'=>e=.returned (I L r)∧Below w.heap.size w w':=by
 have hu59 := Try.underlying59
 have HR0_4 := D hr0_4
 have HC0_4 := D hc0_4
 clear hr0_4 hc0_4
 have HB := D (Below.refl w.heap.size w)
 have H : (spec_l18At.l0 k a1 0 a0_0 a0_1 a0_2 a0_3 l0_4) = some r := h
 clear h
 have H' := D H
 clear H
 go_enter Try.func68, Try.ntmps68
 go_wp2_with (first|((with_reducible refine gate_dst (N:=2) rfl ?_);refine bx_ (N:=2) (cs:=#[I L a0_0,I L a0_1,I L a0_2,I L a0_3,Y A0_4 l0_4.length c0_4]) (t:=59) ?_;intro gb138 hg w3 hbox hb;have n_:=an_ (below_step (pB_ HB.out) hb)<|an_ (hbox)<|an_ (bg_ hg (pB_ HB.out):w.heap.size≤gb138)<|D (bg_ hg (pB_ HB.out):w.heap.size≤gb138);clear HB;obtain ⟨HB,BK138,GW138,GE138⟩:=n_;clear hb hbox hg))
 (try simp only [Act.put, List.setIfInBounds_toArray, List.set_cons_zero, List.set_cons_succ])
 go_loopg [5] k (fun kq v5 w'=>∃ (x5_1:Int),v5=I L x5_1∧Aside0 (spec_l18At.l0 kq a1 x5_1 a0_0 a0_1 a0_2 a0_3 l0_4=some r)∧Aside0 (kq≤k)∧Aside0 (w'.heap[gb138]?=some (.cells #[I L a0_0,I L a0_1,I L a0_2,I L a0_3,(Y A0_4 l0_4.length c0_4)] 59 (0,0)))∧Aside0 (Below w.heap.size w w'))
 case atStart => exact ⟨(0), Z69, H', ⟨Nat.le_refl _⟩, ⟨pk_ BK138.out⟩, ⟨pB_ HB.out⟩⟩
 case round =>
  clear H'
  try clear p2
  obtain ⟨x5_1, rfl, HA, HK1, BK138, HB⟩ := hrel
  cases gk with
  | zero => exact absurd HA.out (by simp [spec_l18At.l0])
  | succ k1 =>
   have H := HA.out; clear HA; simp only [spec_l18At.l0] at H
   by_cases c4 : x5_1 < (l0_4.length : Int)
   ·rw [if_pos c4] at H
    have c4b0 : decide (x5_1 < (l0_4.length : Int)) = true := decide_eq_true c4; clear c4
    by_cases c5 : 0 ≤ x5_1
    ·rw [if_pos c5] at H
     have c5b0:decide (0≤x5_1)=true:=decide_eq_true c5;clear c5;have HU6:=D H;clear H;have hcz7_0:=cells5 BK138.out;have p139:0≤(x5_1:Int):=od_ Z68;have q139:x5_1 < (l0_4.length:Int):=od_ Z68;obtain ⟨ad139,e139,hx139_0,hx139_1,hx139_2,hx139_3,hx139_4,hx139_5⟩:=at_T83 HR0_4.out x5_1 p139 q139;cases e139;replace hx139_0:=rc_ HB.out hx139_0;replace hx139_1:=rc_ HB.out hx139_1;replace hx139_2:=rc_ HB.out hx139_2;replace hx139_3:=rc_ HB.out hx139_3;replace hx139_4:=rc_ HB.out hx139_4;replace hx139_5:=rc_ HB.out hx139_5;replace p139:=eq_true p139;replace q139:=eq_true q139
     go_upto_if 20 with (fail)
     have H := HU6.out; clear HU6
     by_cases c8 : ((rd_T83 l0_4 x5_1).f0) = a1
     ·rw [if_pos c8] at H
      have c8b0:(((rd_T83 l0_4 x5_1).f0) == a1)=true:=beq_iff_eq.mpr c8;have c8b1:(((rd_T83 l0_4 x5_1).f0) != a1)=false:=bne_eq_false_iff_eq.mpr c8;clear c8;refine rw_ c8b0 ?_;obtain rfl:=Option.some.inj H
      go_wp2
      go_ret; exact ⟨er_, pB_ HB.out⟩
     ·rw [if_neg c8] at H
      have c8b0:(((rd_T83 l0_4 x5_1).f0) == a1)=false:=beq_eq_false_iff_ne.mpr c8;have c8b1:(((rd_T83 l0_4 x5_1).f0) != a1)=true:=bne_iff_ne.mpr c8;refine rw_ c8b0 ?_;have H':=D H;clear H
      go_wp2
      go_roundg k1
      case measure => have := HK1.out; omega
      case rel => exact ⟨(wrap64 (x5_1 + 1)), Z69, H', ⟨by have := HK1.out; omega⟩, ⟨pk_ BK138.out⟩, ⟨pB_ HB.out⟩⟩
    ·rw [if_neg c5] at H
     exact absurd H (by simp)
   ·rw [if_neg c4] at H
    have c4b0:decide (x5_1 < (l0_4.length:Int))=false:=decide_eq_false c4;clear c4;obtain rfl:=Option.some.inj H;have hcz9_0:=cells5 BK138.out
    go_wp2
    go_ret; exact ⟨er_, pB_ HB.out⟩

end Go.Proofs.Ytpkdkhhknmlpjaa.PFnTakenAdds
