-- by a program of this session's, over the kit's words
import Derived.Test.YtmloggnobgikdabPZFnExactTreeShed
import Derived.Test.YtmloggnobgikdabPFnExactTreeShedx0
import Derived.Test.YtmloggnobgikdabPFnExactTreeShedx14
namespace Go.Proofs.Ytmloggnobgikdab.PFnExactTreeShed
open Go.RowKit Go.Proofs.YtmloggnobgikdabW.PrintWords Go.Proofs.YtmloggnobgikdabW.PrintLast Go.Proofs.YtmloggnobgikdabW.PrintMore Go.Proofs.YtmloggnobgikdabV Go.Proofs.Ytmloggnobgikdab.ZFnExactTreeShed
open Go.Value renaming int → I, slice → Y
open Go.IntKind renaming i64 → L
open Aside0 renaming mk → D
open Option renaming bind_eq_some_iff → bs_
attribute [local go_sem] max2_int min2_int max_two min_two max_three min_three max_four min_four   -- for this text's walks alone
set_option linter.unusedVariables false
set_option linter.unusedSimpArgs false

/-! ### slices_Clone_impl_Kid_impl_Kid: function 63 -/
def slices_Clone_impl_Kid_impl_Kid.f (l0 : List (S67)) : Option ((List (S67))) := (some (([] : List (S67)) : List (S67))).bind fun y373 => (if y373.length + l0.length < 2932031007402 then (some (y373 ++ l0)) else (none))
set_option maxHeartbeats 8000000 in
set_option maxRecDepth 100000 in
theorem slices_Clone_impl_Kid_impl_Kid.calls (A0 : Option Addr) (c0 : Nat) (l0 r : List (S67)) (w : World) (hr0 : Kd.C k67 w A0 l0.length l0) (hc0 : l0.length ≤ c0) (h : slices_Clone_impl_Kid_impl_Kid.f l0 = some r) :
  Calls Try.prog 63 #[Y A0 l0.length c0] w fun e w' => ∃ v0_ : Value, e = .returned (v0_) ∧ Kd.R k67 67 w' w.heap.size (fun _ => True) v0_ r ∧ Below w.heap.size w w' := by
 have HR0 := D hr0
 have HC0 := D hc0
 clear hr0 hc0
 have HB := D (Below.refl w.heap.size w)
 have H : ((some (([] : List (S67)) : List (S67))).bind fun y373 => (if y373.length + l0.length < 2932031007402 then (some (y373 ++ l0)) else (none))) = some r := h
 clear h
 by_cases hA_ : A0 = none
 ·subst hA_
  have hl_ := List.length_eq_zero_iff.1 (nil_len HR0.out); subst hl_
  have H : some ([] : List (S67)) = some r := by simpa using H
  obtain rfl := Option.some.inj H; go_enter Try.func63, Try.ntmps63
  go_wp2_with (first|((with_reducible refine gate_dst (N:=4) rfl ?_);refine isnil_event ?hg (N:=4) ?hd (t:=32) (u:=32) (e:=67) (x:=.tmp 3) (y:=.const (Y none 0 0)) ?ho (A:=none) (n:=0) (c:=c0) (m:=0) (q:=0) ?hx ?hy Try.underlying32 (b:=true) rfl ?_;(case hd=>rfl);(case hg=>rfl);(case ho=>rfl);(case hx=>rfl);(case hy=>rfl)))
  go_ret;exact ⟨_,er_,by first|exact Kd.R_nil _ _ _ _ _|exact Kd.N_nil _ _ _ _ _|exact Kd.V_nil _ _ _ _ _|exact Kd.Q_nil _ _ _ _ _|exact Kd.S_nil _ _ _ _ _,pB_ HB.out⟩
 ·have hA1_ := none_no hA_
  obtain ⟨y373, hy373⟩ : ∃ y_ : List (S67), y_ = (([] : List (S67))) := ⟨_, rfl⟩
  replace H:(if y373.length + l0.length < 2932031007402 then (some (y373 ++ l0)) else (none))=some r:=by first|(rw [hy373];with_reducible exact H)|(have H2_:=(Option.bind_some _ _).symm.trans H;rw [hy373];with_reducible exact H2_)|(have H2_:=(Option.bind_some _ _).symm.trans H;with_reducible exact H2_)|with_reducible exact H|(rw [hy373];exact H)|exact H
  have Ny373 := D hy373; clear hy373
  by_cases c2 : y373.length + l0.length < 2932031007402
  ·rw [if_pos c2] at H
   have LMc2 := D c2; clear c2; obtain ⟨y376, hy376⟩ : ∃ y_ : List (S67), y_ = (y373 ++ l0) := ⟨_, rfl⟩
   replace H:(some y376)=some r:=by first|(rw [hy376];with_reducible exact H)|(have H2_:=(Option.bind_some _ _).symm.trans H;rw [hy376];with_reducible exact H2_)|(have H2_:=(Option.bind_some _ _).symm.trans H;with_reducible exact H2_)|with_reducible exact H|(rw [hy376];exact H)|exact H
   have Ny376 := D hy376; clear hy376; obtain rfl := Option.some.inj H; go_enter Try.func63, Try.ntmps63
   go_wp2_with (first|((with_reducible refine gate_dst (N:=4) rfl ?_);refine isnil_event ?hg (N:=4) ?hd (t:=32) (u:=32) (e:=67) (x:=.tmp 3) (y:=.const (Y none 0 0)) ?ho (A:=A0) (n:=l0.length) (c:=c0) (m:=0) (q:=0) ?hx ?hy Try.underlying32 (b:=false) hA1_ ?_;(case hd=>rfl);(case hg=>rfl);(case ho=>rfl);(case hx=>rfl);(case hy=>rfl))|((with_reducible refine gate_dst (N:=5) rfl ?_);refine Kd.R_lit k67 _ 67 ?hg (N:=5) ?hd (xs:=([]:List (S67))) (inner:=[]) (ok:=fun _=>True) (okp:=fun _=>True) ?hr ?hp (fun _ hk=>hk) trivial (Below.refl _ _) (Nat.le_refl _) (by simp) ?_;(case hd=>rfl);(case hg=>rfl);(case hr=>first|(go_simp;done)|(go_simp;rfl));(case hp=>exact (Reps.none _ _));intro v374 w3 ho4 hb hg_ hnew_;clear hg_ hnew_;(first|rw [← Ny373.out] at ho4|(simp only [Int.reduceToNat] at ho4;rw [← Ny373.out] at ho4));have n_:=an_ (Kd.R_lower ho4 (below_size (pB_ HB.out)))<|D (below_step (pB_ HB.out) hb);clear HB;obtain ⟨HO375,HB⟩:=n_;clear hb ho4)|((with_reducible refine gate_builtin (b:=.append) (xs:=#[.tmp 5,.tmp 6]) rfl ?_);at_builtin;refine Kd.R_append_rows k67 (w0:=w) w.heap.size rfl (.tmp 5) (.tmp 6) 32 67 (.agg #[(I L 0),(I L 0),(.bool false),(I L 0),(I L 0),(I L 0)]) 48 rfl Try.underlying32 info67 rfl (by decide) (by omega) v374 y373 l0 _ _ _ (fun _=>True) (fun _=>False) rfl rfl ?aO ?aR (fun _ _ h=>h) (fun _ h=>h.elim) ?aF ?aB ?aS ?aL ?_;(case aR=>exact pC_ (Kd.C_below HR0.out HB.out));(case aB=>exact (pB_ HB.out));(case aF=>exact (fun _ _=>trivial));(case aO=>exact (pR_ HO375.out));(case aS=>exact (below_size (pB_ HB.out)));(case aL=>have:=LMc2.out;omega);intro v377 w5 ho hb hg hat;rw [← Ny376.out] at ho;have n_:=an_ (hb)<|D (ho);clear HB HO375;obtain ⟨HB,HO378⟩:=n_;clear ho hb hg hat))
   go_ret;exact ⟨_,er_,by (with_reducible repeat (first|apply Kd.R_alloc|apply Kd.R_drewN|apply Kd.R_drew));exact HO378.out,pB_ HB.out⟩
  ·rw [if_neg c2] at H
   exact absurd H (by simp)

/-! ### impl_copyFair: function 44 -/
def impl_copyFair.f (a0_0 a0_1 a0_2 a0_3 : Int) (l0_4 : List (S67)) : Option (Int × Int × Int × Int × (List (S67))) := (slices_Clone_impl_Kid_impl_Kid.f l0_4).bind fun t381 => (some (a0_0, a0_1, a0_2, a0_3, t381))
def impl_copyFair.T1 : Bool × List (List Nat × List Nat) := (true, [([], []), ([0], [0]), ([], []), ([2], [2]), ([], []), ([4], [4]), ([5], [5]), ([1, 3, 6], [1, 3, 6]), ([7, 6, 0, 1, 2, 3, 4, 5, 6, 7], [7])])
def impl_copyFair.B1 : List Nat := [0, 1, 0, 4, 0, 16, 48, 127, 255]
theorem impl_copyFair.tab1 : rtab .any (opsOf Try.f44 1) = impl_copyFair.T1 := by kernel_rfl
theorem impl_copyFair.bits1 : waitsOk impl_copyFair.T1.2 impl_copyFair.B1 = true := by kernel_rfl
set_option maxHeartbeats 8000000 in
set_option maxRecDepth 100000 in
theorem impl_copyFair.calls (a0_0 a0_1 a0_2 a0_3 : Int) (A0_4 : Option Addr) (c0_4 : Nat) (l0_4 : List (S67)) (r1 r2 r3 r4 : Int) (r5 : List (S67)) (w : World) (hr0_4 : Kd.C k67 w A0_4 l0_4.length l0_4) (hc0_4 : l0_4.length ≤ c0_4) (h : impl_copyFair.f a0_0 a0_1 a0_2 a0_3 l0_4 = some (r1, r2, r3, r4, r5)) :
  Calls Try.prog 44 #[.agg #[I L a0_0,I L a0_1,I L a0_2,I L a0_3,Y A0_4 l0_4.length c0_4]] w fun e w'=>∃ v4_:Value,e=.returned (.agg #[I L r1,I L r2,I L r3,I L r4,v4_])∧Kd.R k67 67 w' w.heap.size (fun _=>True) v4_ r5∧Below w.heap.size w w':=by
 have hu34 := Try.underlying34
 have hu31 := Try.underlying31
 have HR0_4 := D hr0_4
 have HC0_4 := D hc0_4
 clear hr0_4 hc0_4
 have HB := D (Below.refl w.heap.size w)
 have H : ((slices_Clone_impl_Kid_impl_Kid.f l0_4).bind fun t381 => (some (a0_0, a0_1, a0_2, a0_3, t381))) = some (r1, r2, r3, r4, r5) := h
 clear h
 obtain ⟨t381, A20, H⟩ := bs_.mp H
 (try dsimp only at H)
 have A2 := D A20
 clear A20
 simp only [Option.some.injEq, Prod.mk.injEq] at H
 obtain ⟨rfl, rfl, rfl, rfl, rfl⟩ := H
 go_enter Try.func44, Try.ntmps44
 try go_wp2_with (first|((with_reducible refine gate_dst (N:=1) rfl ?_);refine bx_ (N:=1) (cs:=#[I L a0_0,I L a0_1,I L a0_2,I L a0_3,Y A0_4 l0_4.length c0_4]) (t:=34) ?_;intro gb379 hg w3 hbox hb;have n_:=an_ (below_step (pB_ HB.out) hb)<|an_ (hbox)<|an_ (bg_ hg (pB_ HB.out):w.heap.size≤gb379)<|D (bg_ hg (pB_ HB.out):w.heap.size≤gb379);clear HB;obtain ⟨HB,BK379,GW379,GE379⟩:=n_;clear hb hbox hg)|((with_reducible refine gate_dst (N:=2) rfl ?_);refine bx_ (N:=2) (cs:=#[I L 0,I L 0,I L 0,I L 0,Y none 0 0]) (t:=34) ?_;intro gb380 hg w4 hbox hb;have n_:=an_ (blk_below (pk_ BK379.out) hb)<|an_ (below_step (pB_ HB.out) hb)<|an_ (hbox)<|an_ (bg_ hg (pB_ HB.out):w.heap.size≤gb380)<|an_ (bg_ hg (pB_ HB.out):w.heap.size≤gb380)<|an_ (nl_ hg (pk_ BK379.out):gb379≠gb380)<|D (by rw [hg];exact Nat.ne_of_gt (blk_lt (pk_ BK379.out)):gb380≠gb379);clear BK379 HB;obtain ⟨BK379,HB,BK380,GW380,GE380,NB379_380,NB380_379⟩:=n_;clear hb hbox hg))
 have n_ := an_ (blk_drew BK379.out) <| an_ (blk_drew BK380.out) <| D (below_drew1 HB.out)
 clear BK379 BK380 HB
 obtain ⟨BK379, BK380, HB⟩ := n_
 refine start_ (n:=9) (S:=fun w'=>w'.cell? ⟨gb379,0,none⟩=some (I L a0_0)∧w'.cell? ⟨gb379,1,none⟩=some (I L a0_1)∧w'.cell? ⟨gb379,2,none⟩=some (I L a0_2)∧w'.cell? ⟨gb379,3,none⟩=some (I L a0_3)∧w'.cell? ⟨gb379,4,none⟩=some (Y A0_4 l0_4.length c0_4)) (ds:=[]) (bz 9 0) (by kernel_rfl) rfl (by kernel_rfl) (be5_ BK379.out) (fun hHeld=>?_);refine with_tabW impl_copyFair.tab1 impl_copyFair.bits1 (fun HT_ HW_=>?_)
 generalize w4.drew = w5 at BK379 BK380 HB hHeld ⊢
 refine pb_ 0 ?_
 refine pb_ 2 ?_
 refine pb_ 4 ?_
 refine tb_ 1 rfl rfl hHeld Z48 ?_
 refine tb_ 3 rfl rfl hHeld Z48 ?_
 refine tb_ 5 rfl rfl hHeld Z48 ?_
 refine oa_ 6 9 9 127 HT_ (fun K hK => ?_)
 refine goes_ Try.func63 (by kernel_rfl) rfl #[Y A0_4 l0_4.length c0_4] (by rfl) rfl rfl Z14 ?_
 with_reducible refine (slices_Clone_impl_Kid_impl_Kid.calls _ _ l0_4 t381 _ ?side1 ?side2 A2.out).mono ?_
 (case side1 => exact pC_ (Kd.C_below HR0_4.out HB.out))
 (case side2 => exact HC0_4.out)
 rintro e w6 ⟨v382, rfl, ho0, hb⟩
 refine ⟨_, rfl, ?_⟩
 have n_ := an_ (Kd.R_lower ho0 (below_size (pB_ HB.out))) <| an_ (blk_below (pk_ BK379.out) hb) <| an_ (blk_below (pk_ BK380.out) hb) <| D (below_step (pB_ HB.out) hb)
 clear BK379 BK380 HB
 obtain ⟨HO383, BK379, BK380, HB⟩ := n_
 (try clear hb)
 (try clear hb2)
 (try clear hk)
 (try clear hi)
 (try clear ho0)
 obtain ⟨Ao7, co7, eo7⟩ := Kd.R_slice HO383.out
 (first | subst eo7 | obtain ⟨rfl, rfl⟩ := sl_inj eo7)
 refine hK.out _ _ (be5_ BK379.out) (fun hHeld=>?_)
 clear hK K
 refine nx_ (N := some 9) ?_
 refine pb_ 7 ?_
 refine one_ (i := 8) (N := none) (bz 9 511) rfl rfl (one_of HT_.out (by kernel_rfl)) (by decide) (fun K hK => ?_)
 have hs8 : w6.cell? ⟨gb380, 0, none⟩ = some (I L 0) := (bc_ BK380.out 0)
 have hfs8 := blk_frozen BK380.out 0
 have hns8_0 := NB379_380.out
 have hms8_0 := NB380_379.out
 have hs9 : w6.cell? ⟨gb380, 1, none⟩ = some (I L 0) := (bc_ BK380.out 1)
 have hfs9 := blk_frozen BK380.out 1
 have hns9_0 := NB379_380.out
 have hms9_0 := NB380_379.out
 have hs10 : w6.cell? ⟨gb380, 2, none⟩ = some (I L 0) := (bc_ BK380.out 2)
 have hfs10 := blk_frozen BK380.out 2
 have hns10_0 := NB379_380.out
 have hms10_0 := NB380_379.out
 have hs11 : w6.cell? ⟨gb380, 3, none⟩ = some (I L 0) := (bc_ BK380.out 3)
 have hfs11 := blk_frozen BK380.out 3
 have hns11_0 := NB379_380.out
 have hms11_0 := NB380_379.out
 have hs12 : w6.cell? ⟨gb380, 4, none⟩ = some (Y none 0 0) := (bc_ BK380.out 4)
 have hfs12 := blk_frozen BK380.out 4
 have hns12_0 := NB379_380.out
 have hms12_0 := NB380_379.out
 refine skip_ (w1 := ?_) (by rfl) rfl ?_ ?_
 rotate_left
 ·go_simp
  rfl
 refine hK.out _ _ ⟨(cF_ NB379_380.out (hHeld.1)),(cF_ NB379_380.out (hHeld.2.1)),(cF_ NB379_380.out (hHeld.2.2.1)),(cF_ NB379_380.out (hHeld.2.2.2.1)),(cF_ NB379_380.out (hHeld.2.2.2.2))⟩ (fun hHeld=>?_)
 clear hK K
 refine done_ (done_of HT_.out (by kernel_rfl)) ?_
 try go_wp2
 refine bodyPost_ret (results_cell_row rfl _ _ gb380 34 #[I L a0_0,I L a0_1,I L a0_2,I L a0_3,Y Ao7 t381.length co7] (0,0) _ rfl (by exact pP_ BK380.out) Try.underlying34 rfl (by kernel_rfl)) rfl ?_
 exact ⟨_,er_,by (with_reducible repeat (first|apply Kd.R_alloc|apply Kd.R_drewN|apply Kd.R_drew));exact Kd.R_mono (fr_ (fr_ (fr_ (fr_ (fr_ (Kd.R_types HO383.out BK380.out (by decide)) 0 (I L a0_0)) 1 (I L a0_1)) 2 (I L a0_2)) 3 (I L a0_3)) 4 (Y Ao7 t381.length co7)) (fun _ hk=>trivial),pB_ HB.out⟩

/-! ### impl_copyTree: function 41 -/
def impl_copyTree.l0 : Nat → List (S50) → Int → Int → Int → Int → Int → Int → List (S67) → List (S50) → Option (Int × Int × Int × Int × (List (S67)) × (List (S50)))
 | 0, _, _, _, _, _, _, _, _, _ => none
 | k + 1,x11,x12,x13,x394000,x394001,x394002,x394003,x394004,x394005=>if x13 < x12 then (if 0≤x13 then (if x13 < (x11.length:Int) then ((impl_copyFair.f ((rd_T50 x11 x13).f1.f0) ((rd_T50 x11 x13).f1.f1.f0) ((rd_T50 x11 x13).f1.f1.f1) ((rd_T50 x11 x13).f1.f1.f2) ((rd_T50 x11 x13).f1.f2)).bind fun bt396=>(if x394005.length < 2199023255552 then (impl_copyTree.l0 k x11 x12 (wrap64 (x13 + 1)) x394000 x394001 x394002 x394003 x394004 (x394005 ++ [(⟨(rd_T50 x11 x13).f0,(⟨bt396.1,(⟨bt396.2.1,bt396.2.2.1,bt396.2.2.2.1⟩:S31),bt396.2.2.2.2⟩:S34)⟩:S50)])) else (none))) else (none)) else (none)) else (some (x394000,x394001,x394002,x394003,x394004,x394005))
def impl_copyTree.f (k : Nat) (a0_0 a0_1 a0_2 a0_3 : Int) (l0_4 : List (S67)) (l0_5 : List (S50)) : Option (Int × Int × Int × Int × (List (S67)) × (List (S50))) := (impl_copyFair.f a0_0 a0_1 a0_2 a0_3 l0_4).bind fun bt386 => (impl_copyTree.l0 k l0_5 (l0_5.length : Int) 0 bt386.1 bt386.2.1 bt386.2.2.1 bt386.2.2.2.1 bt386.2.2.2.2 ([] : List (S50)))
def impl_copyTree.T5 : Bool × List (List Nat × List Nat) := (true, [([], []), ([0], [0]), ([], []), ([2], [2]), ([], []), ([4], [4]), ([5], [5]), ([3, 6], [3, 6]), ([7], [7]), ([1, 8, 6], [1, 8]), ([0, 1, 2, 3, 4, 5, 6, 7, 8, 9], []), ([10, 9, 9, 0, 1, 2, 3, 4, 5, 6, 7, 8, 9], [9, 10])])
def impl_copyTree.B5 : List Nat := [0, 1, 0, 4, 0, 16, 48, 124, 252, 511, 1023, 2047]
theorem impl_copyTree.tab5 : rtab .any (opsOf Try.f41 5) = impl_copyTree.T5 := by kernel_rfl
theorem impl_copyTree.bits5 : waitsOk impl_copyTree.T5.2 impl_copyTree.B5 = true := by kernel_rfl
set_option maxHeartbeats 8000000 in
set_option maxRecDepth 100000 in
theorem impl_copyTree.calls (k : Nat) (a0_0 a0_1 a0_2 a0_3 : Int) (A0_4 : Option Addr) (c0_4 : Nat) (l0_4 : List (S67)) (A0_5 : Option Addr) (c0_5 : Nat) (l0_5 : List (S50)) (r1 r2 r3 r4 : Int) (r5 : List (S67)) (r6 : List (S50)) (w : World) (hr0_4 : Kd.C k67 w A0_4 l0_4.length l0_4) (hc0_4 : l0_4.length ≤ c0_4) (hr0_5 : Kd.C k50 w A0_5 l0_5.length l0_5) (hc0_5 : l0_5.length ≤ c0_5) (h : impl_copyTree.f k a0_0 a0_1 a0_2 a0_3 l0_4 l0_5 = some (r1, r2, r3, r4, r5, r6)) :
  Calls Try.prog 41 #[.agg #[I L a0_0,I L a0_1,I L a0_2,I L a0_3,Y A0_4 l0_4.length c0_4,Y A0_5 l0_5.length c0_5]] w fun e w'=>∃ v4_ v5_:Value,e=.returned (.agg #[I L r1,I L r2,I L r3,I L r4,v4_,v5_])∧Kd.R k67 67 w' w.heap.size (fun _=>True) v4_ r5∧Kd.S k50 50 w' w.heap.size (fun k_=>some k_≠(v4_:Value).ownBlock) v5_ r6∧Below w.heap.size w w':=by
 have hu37 := Try.underlying37
 have hu34 := Try.underlying34
 have hu50 := Try.underlying50
 have HR0_4 := D hr0_4
 have HC0_4 := D hc0_4
 clear hr0_4 hc0_4
 have HR0_5 := D hr0_5
 have HC0_5 := D hc0_5
 clear hr0_5 hc0_5
 have HB := D (Below.refl w.heap.size w)
 have H:((impl_copyFair.f a0_0 a0_1 a0_2 a0_3 l0_4).bind fun bt386=>(impl_copyTree.l0 k l0_5 (l0_5.length:Int) 0 bt386.1 bt386.2.1 bt386.2.2.1 bt386.2.2.2.1 bt386.2.2.2.2 ([]:List (S50))))=some (r1,r2,r3,r4,r5,r6):=h
 clear h
 obtain ⟨⟨Ub, Jc, Kc, Xc, Mb⟩, A20, H⟩ := bs_.mp H
 (try dsimp only at H)
 have A2 := D A20
 clear A20
 have H' := D H
 clear H
 go_enter Try.func41, Try.ntmps41
 go_wp2_with (first|((with_reducible refine gate_dst (N:=1) rfl ?_);refine bx_ (N:=1) (cs:=#[I L a0_0,I L a0_1,I L a0_2,I L a0_3,Y A0_4 l0_4.length c0_4,Y A0_5 l0_5.length c0_5]) (t:=37) ?_;intro Ob hg w3 hbox hb;have n_:=an_ (below_step (pB_ HB.out) hb)<|an_ (hbox)<|an_ (bg_ hg (pB_ HB.out):w.heap.size≤Ob)<|D (bg_ hg (pB_ HB.out):w.heap.size≤Ob);clear HB;obtain ⟨HB,Oa,Jp,Kp⟩:=n_;clear hb hbox hg)|((with_reducible refine gate_dst (N:=2) rfl ?_);refine bx_ (N:=2) (cs:=#[I L 0,I L 0,I L 0,I L 0,Y none 0 0,Y none 0 0]) (t:=37) ?_;intro Mc hg w4 hbox hb;have n_:=an_ (blk_below (pk_ Oa.out) hb)<|an_ (below_step (pB_ HB.out) hb)<|an_ (hbox)<|an_ (bg_ hg (pB_ HB.out):w.heap.size≤Mc)<|an_ (bg_ hg (pB_ HB.out):w.heap.size≤Mc)<|an_ (nl_ hg (pk_ Oa.out):Ob≠Mc)<|D (by rw [hg];exact Nat.ne_of_gt (blk_lt (pk_ Oa.out)):Mc≠Ob);clear Oa HB;obtain ⟨Oa,HB,Xa,Mp,Op,Og,Ug⟩:=n_;clear hb hbox hg;(try have:=Og.out);(try have:=Ug.out);have Oh:=cells6 Oa.out)|((with_reducible refine gate_callee (f:=44) rfl ?_);refine goesL_ (some 8) rfl rfl Try.func44 (by kernel_rfl) rfl #[.agg #[I L a0_0,I L a0_1,I L a0_2,I L a0_3,Y A0_4 l0_4.length c0_4]] rfl Z14 ?_;(with_reducible refine (impl_copyFair.calls a0_0 a0_1 a0_2 a0_3 _ _ l0_4 Ub Jc Kc Xc Mb _ ?side1 ?side2 A2.out).mono ?_);(case side1=>exact pC_ (Kd.C_below HR0_4.out HB.out));(case side2=>exact HC0_4.out);rintro e w7 ⟨Up,rfl,ho0,hb⟩;refine ⟨_,rfl,?_⟩;have n_:=an_ (Kd.R_lower ho0 (below_size (pB_ HB.out)))<|an_ (blk_below (pk_ Oa.out) hb)<|an_ (blk_below (pk_ Xa.out) hb)<|D (below_step (pB_ HB.out) hb);clear Oa Xa HB;obtain ⟨Oe,Oa,Xa,HB⟩:=n_;(try clear hb);(try clear ho0);obtain ⟨Oc,Uc,eo8⟩:=Kd.R_slice Oe.out;subst eo8)|((with_reducible refine gate_dst (N:=3) rfl ?_);refine bx_ (N:=3) (cs:=#[I L 0,I L 0,I L 0,I L 0,Y none 0 0,Y none 0 0]) (t:=37) ?_;intro Jb hg w9 hbox hb;have n_:=an_ (Kd.R_below (pR_ Oe.out) hb)<|an_ (blk_below (pk_ Oa.out) hb)<|an_ (blk_below (pk_ Xa.out) hb)<|an_ (below_step (pB_ HB.out) hb)<|an_ (hbox)<|an_ (bg_ hg (pB_ HB.out):w.heap.size≤Jb)<|an_ (bg_ hg (pB_ HB.out):w.heap.size≤Jb)<|an_ (nl_ hg (pk_ Oa.out):Ob≠Jb)<|an_ (ng_ hg (pk_ Oa.out):Jb≠Ob)<|an_ (nl_ hg (pk_ Xa.out):Mc≠Jb)<|D (by rw [hg];exact Nat.ne_of_gt (blk_lt (pk_ Xa.out)):Jb≠Mc);clear Oe Oa Xa HB;obtain ⟨Oe,Oa,Xa,HB,Ma,Xp,Jq,Md,Of,Od,Uf⟩:=n_;clear hb hbox hg;(try have:=Of.out);(try have:=Md.out);(try have:=Uf.out);(try have:=Od.out);have Oj:=cells6 Ma.out;have Om:=cells6 Oa.out))
 go_loopg [13] k (fun kq v13 w'=>∃ (Ja:Int) (Ud:List (S50)) (u394005:Value),v13=I L Ja∧Aside0 (impl_copyTree.l0 kq l0_5 (l0_5.length:Int) Ja Ub Jc Kc Xc Mb Ud=some (r1,r2,r3,r4,r5,r6))∧Aside0 (kq≤k)∧Aside0 (Kd.R k67 67 w' w.heap.size (fun _=>True) (Y Oc Mb.length Uc) Mb)∧Aside0 (Kd.S k50 50 w' w.heap.size (fun k_=>some k_≠((Y Oc Mb.length Uc):Value).ownBlock) u394005 Ud)∧Aside0 (w'.heap[Ob]?=some (.cells #[I L a0_0,I L a0_1,I L a0_2,I L a0_3,(Y A0_4 l0_4.length c0_4),(Y A0_5 l0_5.length c0_5)] 37 (0,0)))∧Aside0 (w'.heap[Mc]?=some (.cells #[I L 0,I L 0,I L 0,I L 0,(Y none 0 0),(Y none 0 0)] 37 (0,0)))∧Aside0 (w'.heap[Jb]?=some (.cells #[I L Ub,I L Jc,I L Kc,I L Xc,(Y Oc Mb.length Uc),u394005] 37 (0,0)))∧Aside0 (Below w.heap.size w w'))
 case atStart=>exact ⟨(0),(([]:List (S50))),(Y none 0 0),Z51,H',⟨Nat.le_refl _⟩,⟨rM_ (Kd.R_types Oe.out Ma.out (by decide)) (fun _ hk=>trivial)⟩,⟨by first|exact Kd.S_nil _ _ _ _ _|exact Kd.N_nil _ _ _ _ _|exact Kd.V_nil _ _ _ _ _|exact Kd.Q_nil _ _ _ _ _|exact Kd.R_nil _ _ _ _ _⟩,⟨pP_ Oa.out⟩,⟨pP_ Xa.out⟩,⟨pP_ Ma.out⟩,⟨pB_ HB.out⟩⟩
 case round =>
  clear H'
  (try clear c1);(try clear p2);(try clear c4);(try clear c5);(try clear c10);(try clear c11);(try clear Oj);(try clear Om);(try clear Oh)
  obtain ⟨Ja, Ud, u394005, rfl, HA, HK1, Xb, Kb, Oa, Xa, Ma, HB⟩ := hrel
  cases gk with
  | zero => exact absurd HA.out (by simp [impl_copyTree.l0])
  | succ k1 =>
   have H := HA.out; clear HA; simp only [impl_copyTree.l0] at H
   by_cases c14 : Ja < (l0_5.length : Int)
   ·rw [if_pos c14] at H
    have c14b0 : decide (Ja < (l0_5.length : Int)) = true := decide_eq_true c14; clear c14
    by_cases c15 : 0 ≤ Ja
    ·rw [if_pos c15] at H
     have c15b0 : decide (0 ≤ Ja) = true := decide_eq_true c15; clear c15
     by_cases c16 : Ja < (l0_5.length : Int)
     ·rw [if_pos c16] at H
      have c16b0:decide (Ja < (l0_5.length:Int))=true:=decide_eq_true c16;clear c16;obtain ⟨⟨Ue,Xe,Jf,Kf,Me⟩,A170,H⟩:=bs_.mp H;(try dsimp only at H);have A17:=D A170;clear A170
      by_cases c18 : Ud.length < 2199023255552
      ·rw [if_pos c18] at H
       have LMc18 := D c18; clear c18; obtain ⟨y403, hy403⟩ : ∃ y_ : List (S50), y_ = (Ud ++ [(⟨(rd_T50 l0_5 Ja).f0, (⟨Ue, (⟨Xe, Jf, Kf⟩ : S31), Me⟩ : S34)⟩ : S50)]) := ⟨_, rfl⟩
       replace H:(impl_copyTree.l0 k1 l0_5 (l0_5.length:Int) (wrap64 (Ja + 1)) Ub Jc Kc Xc Mb y403)=some (r1,r2,r3,r4,r5,r6):=by first|(rw [hy403];with_reducible exact H)|(have H2_:=(Option.bind_some _ _).symm.trans H;rw [hy403];with_reducible exact H2_)|(have H2_:=(Option.bind_some _ _).symm.trans H;with_reducible exact H2_)|with_reducible exact H|(rw [hy403];exact H)|exact H
       have Ny403:=D hy403;clear hy403;have H':=D H;clear H;have p394:0≤(Ja:Int):=od_ Z50;have q394:Ja < (l0_5.length:Int):=od_ Z50;obtain ⟨ad394,A394_5,c394_5,e394,hx394_0,hx394_1,hx394_2,hx394_3,hx394_4,hx394_5,hl394_5,hi394_5⟩:=at_T50 HR0_5.out Ja p394 q394;cases e394;replace hx394_0:=rc_ HB.out hx394_0;replace hx394_1:=rc_ HB.out hx394_1;replace hx394_2:=rc_ HB.out hx394_2;replace hx394_3:=rc_ HB.out hx394_3;replace hx394_4:=rc_ HB.out hx394_4;replace hx394_5:=rc_ HB.out hx394_5;have HR394_5:=D hi394_5;have HC394_5:=D hl394_5;clear hi394_5 hl394_5;replace p394:=eq_true p394;replace q394:=eq_true q394
       try go_wp2_with (first|((with_reducible refine gate_dst (N:=5) rfl ?_);refine bx_ (N:=5) (cs:=#[I L 0,I L 0,I L 0,I L 0,I L 0,Y none 0 0]) (t:=50) ?_;intro Ka hg w19 hbox hb;have n_:=an_ (Kd.R_below (pR_ Xb.out) hb)<|an_ (Kd.S_below (Kd.S_elderB (pS_ Kb.out) Ka (Nat.le_of_eq hg.symm)) hb)<|an_ (blk_below (pk_ Oa.out) hb)<|an_ (blk_below (pk_ Xa.out) hb)<|an_ (blk_below (pk_ Ma.out) hb)<|an_ (below_step (pB_ HB.out) hb)<|an_ (hbox)<|an_ (bg_ hg (pB_ HB.out):w.heap.size≤Ka)<|an_ (bg_ hg (pB_ HB.out):w.heap.size≤Ka)<|an_ (nl_ hg (pk_ Oa.out):Ob≠Ka)<|an_ (ng_ hg (pk_ Oa.out):Ka≠Ob)<|an_ (nl_ hg (pk_ Xa.out):Mc≠Ka)<|an_ (ng_ hg (pk_ Xa.out):Ka≠Mc)<|an_ (nl_ hg (pk_ Ma.out):Jb≠Ka)<|D (by rw [hg];exact Nat.ne_of_gt (blk_lt (pk_ Ma.out)):Ka≠Jb);clear Xb Kb Oa Xa Ma HB;obtain ⟨Xb,Kb,Oa,Xa,Ma,HB,Ua,Kq,Mq,Je,Oo,Ke,Uo,Xd,Xg⟩:=n_;clear hb hbox hg;(try have:=Oo.out);(try have:=Je.out);(try have:=Uo.out);(try have:=Ke.out);(try have:=Xg.out);(try have:=Xd.out);have Oq:=cells6 Ua.out))
       have n0_:Aside0 (Kd.R k67 67 ((((((w19.setCell ⟨Ka,0,none⟩ (I L ((rd_T50 l0_5 Ja).f0))).setCell ⟨Ka,1,none⟩ (I L ((rd_T50 l0_5 Ja).f1.f0))).setCell ⟨Ka,2,none⟩ (I L ((rd_T50 l0_5 Ja).f1.f1.f0))).setCell ⟨Ka,3,none⟩ (I L ((rd_T50 l0_5 Ja).f1.f1.f1))).setCell ⟨Ka,4,none⟩ (I L ((rd_T50 l0_5 Ja).f1.f1.f2))).setCell ⟨Ka,5,none⟩ (Y A394_5 ((rd_T50 l0_5 Ja).f1.f2).length c394_5)) w.heap.size (fun _=>True) (Y Oc Mb.length Uc) Mb):=⟨rM_ (Kd.R_types Xb.out Ua.out (by decide)) (fun _ hk=>trivial)⟩;have n1_:Aside0 (Kd.S k50 50 ((((((w19.setCell ⟨Ka,0,none⟩ (I L ((rd_T50 l0_5 Ja).f0))).setCell ⟨Ka,1,none⟩ (I L ((rd_T50 l0_5 Ja).f1.f0))).setCell ⟨Ka,2,none⟩ (I L ((rd_T50 l0_5 Ja).f1.f1.f0))).setCell ⟨Ka,3,none⟩ (I L ((rd_T50 l0_5 Ja).f1.f1.f1))).setCell ⟨Ka,4,none⟩ (I L ((rd_T50 l0_5 Ja).f1.f1.f2))).setCell ⟨Ka,5,none⟩ (Y A394_5 ((rd_T50 l0_5 Ja).f1.f2).length c394_5)) w.heap.size (fun k_=>some k_≠(Y Oc Mb.length Uc:Value).ownBlock∧k_≠Ka) u394005 Ud):=⟨sM_ (Kd.S_mono Kb.out (fun k_ hk=>(⟨hk,hk.2⟩:_∧k_≠Ka))) (fun _ hk=>⟨hk.1.1,hk.1.2⟩)⟩;have n2_:Aside0 (((((((w19.setCell ⟨Ka,0,none⟩ (I L ((rd_T50 l0_5 Ja).f0))).setCell ⟨Ka,1,none⟩ (I L ((rd_T50 l0_5 Ja).f1.f0))).setCell ⟨Ka,2,none⟩ (I L ((rd_T50 l0_5 Ja).f1.f1.f0))).setCell ⟨Ka,3,none⟩ (I L ((rd_T50 l0_5 Ja).f1.f1.f1))).setCell ⟨Ka,4,none⟩ (I L ((rd_T50 l0_5 Ja).f1.f1.f2))).setCell ⟨Ka,5,none⟩ (Y A394_5 ((rd_T50 l0_5 Ja).f1.f2).length c394_5)).heap[Ob]?=some (.cells #[I L a0_0,I L a0_1,I L a0_2,I L a0_3,Y A0_4 l0_4.length c0_4,Y (some ad394) l0_5.length c0_5] 37 (0,0))):=⟨pP_ Oa.out⟩;have n3_:Aside0 (((((((w19.setCell ⟨Ka,0,none⟩ (I L ((rd_T50 l0_5 Ja).f0))).setCell ⟨Ka,1,none⟩ (I L ((rd_T50 l0_5 Ja).f1.f0))).setCell ⟨Ka,2,none⟩ (I L ((rd_T50 l0_5 Ja).f1.f1.f0))).setCell ⟨Ka,3,none⟩ (I L ((rd_T50 l0_5 Ja).f1.f1.f1))).setCell ⟨Ka,4,none⟩ (I L ((rd_T50 l0_5 Ja).f1.f1.f2))).setCell ⟨Ka,5,none⟩ (Y A394_5 ((rd_T50 l0_5 Ja).f1.f2).length c394_5)).heap[Mc]?=some (.cells #[I L 0,I L 0,I L 0,I L 0,Y none 0 0,Y none 0 0] 37 (0,0))):=⟨pP_ Xa.out⟩;have n4_:Aside0 (((((((w19.setCell ⟨Ka,0,none⟩ (I L ((rd_T50 l0_5 Ja).f0))).setCell ⟨Ka,1,none⟩ (I L ((rd_T50 l0_5 Ja).f1.f0))).setCell ⟨Ka,2,none⟩ (I L ((rd_T50 l0_5 Ja).f1.f1.f0))).setCell ⟨Ka,3,none⟩ (I L ((rd_T50 l0_5 Ja).f1.f1.f1))).setCell ⟨Ka,4,none⟩ (I L ((rd_T50 l0_5 Ja).f1.f1.f2))).setCell ⟨Ka,5,none⟩ (Y A394_5 ((rd_T50 l0_5 Ja).f1.f2).length c394_5)).heap[Jb]?=some (.cells #[I L Ub,I L Jc,I L Kc,I L Xc,Y Oc Mb.length Uc,u394005] 37 (0,0))):=⟨pP_ Ma.out⟩
       have n5_:Aside0 (((((((w19.setCell ⟨Ka,0,none⟩ (I L ((rd_T50 l0_5 Ja).f0))).setCell ⟨Ka,1,none⟩ (I L ((rd_T50 l0_5 Ja).f1.f0))).setCell ⟨Ka,2,none⟩ (I L ((rd_T50 l0_5 Ja).f1.f1.f0))).setCell ⟨Ka,3,none⟩ (I L ((rd_T50 l0_5 Ja).f1.f1.f1))).setCell ⟨Ka,4,none⟩ (I L ((rd_T50 l0_5 Ja).f1.f1.f2))).setCell ⟨Ka,5,none⟩ (Y A394_5 ((rd_T50 l0_5 Ja).f1.f2).length c394_5)).heap[Ka]?=some (.cells #[I L ((rd_T50 l0_5 Ja).f0),I L ((rd_T50 l0_5 Ja).f1.f0),I L ((rd_T50 l0_5 Ja).f1.f1.f0),I L ((rd_T50 l0_5 Ja).f1.f1.f1),I L ((rd_T50 l0_5 Ja).f1.f1.f2),Y A394_5 ((rd_T50 l0_5 Ja).f1.f2).length c394_5] 50 (0,0))):=⟨pP_ Ua.out⟩;have n6_:Aside0 (Below w.heap.size w ((((((w19.setCell ⟨Ka,0,none⟩ (I L ((rd_T50 l0_5 Ja).f0))).setCell ⟨Ka,1,none⟩ (I L ((rd_T50 l0_5 Ja).f1.f0))).setCell ⟨Ka,2,none⟩ (I L ((rd_T50 l0_5 Ja).f1.f1.f0))).setCell ⟨Ka,3,none⟩ (I L ((rd_T50 l0_5 Ja).f1.f1.f1))).setCell ⟨Ka,4,none⟩ (I L ((rd_T50 l0_5 Ja).f1.f1.f2))).setCell ⟨Ka,5,none⟩ (Y A394_5 ((rd_T50 l0_5 Ja).f1.f2).length c394_5))):=⟨pB_ HB.out⟩;(try clear Xb);(try clear Kb);(try clear Oa);(try clear Xa);(try clear Ma);(try clear Ua);(try clear HB);generalize ((((((w19.setCell ⟨Ka,0,none⟩ (I L ((rd_T50 l0_5 Ja).f0))).setCell ⟨Ka,1,none⟩ (I L ((rd_T50 l0_5 Ja).f1.f0))).setCell ⟨Ka,2,none⟩ (I L ((rd_T50 l0_5 Ja).f1.f1.f0))).setCell ⟨Ka,3,none⟩ (I L ((rd_T50 l0_5 Ja).f1.f1.f1))).setCell ⟨Ka,4,none⟩ (I L ((rd_T50 l0_5 Ja).f1.f1.f2))).setCell ⟨Ka,5,none⟩ (Y A394_5 ((rd_T50 l0_5 Ja).f1.f2).length c394_5))=w24 at n0_ n1_ n2_ n3_ n4_ n5_ n6_ ⊢;have Xb:=n0_;have Kb:=n1_;have Oa:=n2_;have Xa:=n3_;have Ma:=n4_;have Ua:=n5_;have HB:=n6_;clear n0_ n1_ n2_ n3_ n4_ n5_ n6_
       have n_:=an_ (Kd.R_drew Xb.out)<|an_ (Kd.S_drew Kb.out)<|an_ (blk_drew Oa.out)<|an_ (blk_drew Xa.out)<|an_ (blk_drew Ma.out)<|an_ (blk_drew Ua.out)<|D (below_drew1 HB.out)
       clear Xb Kb Oa Xa Ma Ua HB;obtain ⟨Xb,Kb,Oa,Xa,Ma,Ua,HB⟩:=n_;refine start_ (n:=12) (S:=fun w'=>w'.cell? ⟨Jb,0,none⟩=some (I L Ub)∧w'.cell? ⟨Jb,1,none⟩=some (I L Jc)∧w'.cell? ⟨Jb,2,none⟩=some (I L Kc)∧w'.cell? ⟨Jb,3,none⟩=some (I L Xc)∧w'.cell? ⟨Jb,4,none⟩=some (Y Oc Mb.length Uc)∧w'.cell? ⟨Jb,5,none⟩=some (u394005)∧w'.cell? ⟨Ka,0,none⟩=some (I L ((rd_T50 l0_5 Ja).f0))∧w'.cell? ⟨Ka,1,none⟩=some (I L ((rd_T50 l0_5 Ja).f1.f0))∧w'.cell? ⟨Ka,2,none⟩=some (I L ((rd_T50 l0_5 Ja).f1.f1.f0))∧w'.cell? ⟨Ka,3,none⟩=some (I L ((rd_T50 l0_5 Ja).f1.f1.f1))∧w'.cell? ⟨Ka,4,none⟩=some (I L ((rd_T50 l0_5 Ja).f1.f1.f2))∧w'.cell? ⟨Ka,5,none⟩=some (Y A394_5 ((rd_T50 l0_5 Ja).f1.f2).length c394_5)) (ds:=[11]) (bz 12 0) (by kernel_rfl) rfl (by kernel_rfl) (bk6_ Ma.out (be6_ Ua.out)) (fun hHeld=>?_);refine with_tabW impl_copyTree.tab5 impl_copyTree.bits5 (fun HT_ HW_=>?_);generalize w24.drew=w25 at Xb Kb Oa Xa Ma Ua HB hHeld ⊢;refine pb_ 0 ?_;refine pb_ 2 ?_;refine pb_ 4 ?_;refine tb_ 1 rfl rfl hHeld Z45 ?_;refine tb_ 3 rfl rfl hHeld Z45 ?_;refine tb_ 5 rfl rfl hHeld Z45 ?_;refine oa_ 6 23 12 127 HT_ (fun K hK=>?_);refine goes_ Try.func44 (by kernel_rfl) rfl #[.agg #[I L ((rd_T50 l0_5 Ja).f1.f0),I L ((rd_T50 l0_5 Ja).f1.f1.f0),I L ((rd_T50 l0_5 Ja).f1.f1.f1),I L ((rd_T50 l0_5 Ja).f1.f1.f2),Y A394_5 ((rd_T50 l0_5 Ja).f1.f2).length c394_5]] (by rfl) rfl rfl Z14 ?_;with_reducible refine (impl_copyFair.calls ((rd_T50 l0_5 Ja).f1.f0) ((rd_T50 l0_5 Ja).f1.f1.f0) ((rd_T50 l0_5 Ja).f1.f1.f1) ((rd_T50 l0_5 Ja).f1.f1.f2) _ _ ((rd_T50 l0_5 Ja).f1.f2) Ue Xe Jf Kf Me _ ?side1 ?side2 A17.out).mono ?_
       (case side1 => exact pC_ (Kd.C_below HR394_5.out HB.out)); (case side2 => exact HC394_5.out); rintro e w26 ⟨Os, rfl, ho0, hb⟩; refine ⟨_, rfl, ?_⟩
       have n_:=an_ (Kd.R_elder' (pR_ Xb.out) (Kd.R_base ho0) hb)<|an_ (Kd.S_elder' (pS_ Kb.out) (Kd.R_base ho0) hb)<|an_ (Kd.R_lower (nw_ ho0 (pR_ Xb.out)) (below_size (pB_ HB.out)))<|an_ (blk_below (pk_ Oa.out) hb)<|an_ (blk_below (pk_ Xa.out) hb)<|an_ (blk_below (pk_ Ma.out) hb)<|an_ (blk_below (pk_ Ua.out) hb)<|D (below_step (pB_ HB.out) hb)
       clear Xb Kb Oa Xa Ma Ua HB;obtain ⟨Xb,Kb,Mf,Oa,Xa,Ma,Ua,HB⟩:=n_;obtain ⟨Jh,Kh,eo27⟩:=Kd.R_slice Mf.out;(first|subst eo27|obtain ⟨rfl,rfl⟩:=sl_inj eo27);refine hK.out _ _ (bk6_ Ma.out (be6_ Ua.out)) (fun hHeld=>?_);clear hK K;refine nx_ (N:=some 23) ?_;refine pb_ 7 ?_;refine oa_ 8 25 12 511 HT_ (fun K hK=>?_);refine value_ (w1:=?_) (v:=?_) (by rfl) rfl ?_ ?_;rotate_left 2
       ·go_simp
        constructor
        ·rfl
        ·rfl
       refine hK.out _ _ ⟨(blk_cell (blk_alloc Ma.out _) 0).trans rfl,(blk_cell (blk_alloc Ma.out _) 1).trans rfl,(blk_cell (blk_alloc Ma.out _) 2).trans rfl,(blk_cell (blk_alloc Ma.out _) 3).trans rfl,(blk_cell (blk_alloc Ma.out _) 4).trans rfl,(blk_cell (blk_alloc Ma.out _) 5).trans rfl,(blk_cell (blk_alloc Ua.out _) 0).trans rfl,(blk_cell (blk_alloc Ua.out _) 1).trans rfl,(blk_cell (blk_alloc Ua.out _) 2).trans rfl,(blk_cell (blk_alloc Ua.out _) 3).trans rfl,(blk_cell (blk_alloc Ua.out _) 4).trans rfl,(blk_cell (blk_alloc Ua.out _) 5).trans rfl⟩ (fun hHeld=>?_);clear hK K;refine nx_ (N:=some 25) ?_;refine oa_ 9 26 12 1023 HT_ (fun K hK=>?_);refine Kd.S_append_step k50 (w0:=w) w.heap.size (by rfl) (.tmp 18) (.tmp 25) 35 50 (.agg #[(I L 0),(I L 0),(I L 0),(I L 0),(I L 0),(Y none 0 0)]) 64 rfl Try.underlying35 info50 rfl (by decide) (by omega) u394005 Ud (⟨(rd_T50 l0_5 Ja).f0,(⟨Ue,(⟨Xe,Jf,Kf⟩:S31),Me⟩:S34)⟩:S50) [I L ((rd_T50 l0_5 Ja).f0),I L Ue,I L Xe,I L Jf,I L Kf,Y Jh Me.length Kh] (fun k_=>some k_≠(Y Oc Mb.length Uc:Value).ownBlock∧k_≠Ka) (fun k_=>some k_=(Y Jh Me.length Kh:Value).ownBlock) rfl rfl ?aP (fun k_ hk_=>((Kd.R_mono (ok':=fun k_=>((fun k_=>some k_≠(Y Oc Mb.length Uc:Value).ownBlock∧k_≠Ka)) k_∧some k_≠(u394005:Value).ownBlock) (Kd.R_types (Kd.R_apart' (Mf.out) (Kd.S_typed Kb.out) (by decide)) Ua.out (by decide)) (fun k_ hk=>⟨⟨hk.1.1.2,hk.2⟩,hk.1.2⟩))).1 k_ hk_.symm) ?aF ?aO ?aB ?aS ?aL ?_;(case aP=>exact k50_mkM _ _ _ (⟨(rd_T50 l0_5 Ja).f0,(⟨Ue,(⟨Xe,Jf,Kf⟩:S31),Me⟩:S34)⟩:S50) (Kd.R_mono (Kd.R_tight rfl (Kd.R_mono (ok':=fun k_=>((fun k_=>some k_≠(Y Oc Mb.length Uc:Value).ownBlock∧k_≠Ka)) k_∧some k_≠(u394005:Value).ownBlock) (Kd.R_types (Kd.R_apart' (Mf.out) (Kd.S_typed Kb.out) (by decide)) Ua.out (by decide)) (fun k_ hk=>⟨⟨hk.1.1.2,hk.2⟩,hk.1.2⟩))) (fun _ h_=>h_)));(case aB=>exact (pB_ HB.out));(case aF=>exact (fun k_ hk=>⟨Kd.fresh' (Kd.R_lt (pR_ Xb.out)) k_ hk,Kd.freshB (pk_ Ua.out) k_ hk⟩));(case aO=>exact (pS_ (Kd.S_mono Kb.out (fun k_ hk=>⟨⟨hk.1.1,hk.1.2⟩,fun e_=>hk.2 e_⟩))));(case aS=>exact (below_size (pB_ HB.out)));(case aL=>have:=LMc18.out;omega);intro Us w28 ho hb hg hat;rw [← Ny403.out] at ho
       have n_:=an_ (Kd.R_over' (pR_ Xb.out) (Kd.S_typed (pS_ Kb.out)) (by decide) hg)<|an_ (blk_grown (pk_ Oa.out) hg (Kd.S_ne Kb.out Oa.out (by decide)))<|an_ (blk_grown (pk_ Xa.out) hg (Kd.S_ne Kb.out Xa.out (by decide)))<|an_ (blk_grown (pk_ Ma.out) hg (Kd.S_ne Kb.out Ma.out (by decide)))<|an_ (blk_grown (pk_ Ua.out) hg (Kd.S_away Kb.out (fun _ hk=>hk.1.2)))<|an_ (hb)<|D (ho)
       clear Xb Oa Xa Ma Ua HB Kb Mf;obtain ⟨Xb,Oa,Xa,Ma,Ua,HB,Mh⟩:=n_;clear ho hb hg hat;obtain ⟨Xf,Jg,eo29⟩:=Kd.S_slice Mh.out;(first|subst eo29|obtain ⟨rfl,rfl⟩:=sl_inj eo29);refine hK.out _ _ (bk6_ Ma.out (be6_ Ua.out)) (fun hHeld=>?_);clear hK K;refine nx_ (N:=some 26) ?_;refine pb_ 10 ?_;refine last_ (i:=11) (N:=none) (bz 12 4095) rfl rfl (one_of HT_.out (by kernel_rfl)) (by decide) (fun K hK=>?_);have hs30:w28.cell? ⟨Jb,5,none⟩=some (u394005):=bc_ Ma.out 5;have hfs30:=blk_frozen Ma.out 5;have hns30_0:=Md.out;have hns30_1:=Od.out;have hns30_3:=Xg.out;have hms30_0:=Of.out;have hms30_1:=Uf.out;have hms30_3:=Xd.out;refine skip_ (w1:=?_) (by rfl) rfl ?_ ?_;rotate_left
       ·go_simp
        rfl
       refine hK.out _ _ ?_; clear hK K; refine done_ (done_of HT_.out (by kernel_rfl)) ?_
       try go_wp2
       go_roundg k1
       case measure => have := HK1.out; omega
       case rel=>exact ⟨(wrap64 (Ja + 1)),(y403),(Y Xf y403.length Jg),Z51,H',⟨by have:=HK1.out;omega⟩,⟨rM_ (Kd.R_types Xb.out Ma.out (by decide)) (fun _ hk=>trivial)⟩,⟨sM_ (Kd.S_types Mh.out Ma.out (by decide)) (fun _ hk=>hk.1.1)⟩,⟨pP_ Oa.out⟩,⟨pP_ Xa.out⟩,⟨pP_ Ma.out⟩,⟨pB_ HB.out⟩⟩
      ·rw [if_neg c18] at H
       exact absurd H (by simp)
     ·rw [if_neg c16] at H
      exact absurd H (by simp)
    ·rw [if_neg c15] at H
     exact absurd H (by simp)
   ·rw [if_neg c14] at H
    have c14b0:decide (Ja < (l0_5.length:Int))=false:=decide_eq_false c14;clear c14;simp only [Option.some.injEq,Prod.mk.injEq] at H;obtain ⟨rfl,rfl,rfl,rfl,rfl,rfl⟩:=H;(try have:=Of.out);(try have:=Md.out);(try have:=Uf.out);(try have:=Od.out);have Xs:=cells6 Ma.out;(try have:=Ug.out);(try have:=Og.out);have Xv:=cells6 Xa.out;obtain ⟨Kg,Mg,eo36⟩:=Kd.S_slice Kb.out;subst eo36
    go_wp2
    refine bodyPost_ret (results_cell_row rfl _ _ Mc 37 #[I L Ub,I L Jc,I L Kc,I L Xc,Y Oc Mb.length Uc,Y Kg Ud.length Mg] (0,0) _ rfl (by exact pP_ Xa.out) Try.underlying37 rfl (by kernel_rfl)) rfl ?_;exact ⟨_,_,er_,by (with_reducible repeat (first|apply Kd.R_alloc|apply Kd.R_drewN|apply Kd.R_drew));exact Kd.R_mono (fr_ (fr_ (fr_ (fr_ (fr_ (fr_ (Kd.R_types Xb.out Xa.out (by decide)) 0 (I L Ub)) 1 (I L Jc)) 2 (I L Kc)) 3 (I L Xc)) 4 (Y Oc Mb.length Uc)) 5 (Y Kg Ud.length Mg)) (fun _ hk=>trivial),by (with_reducible repeat (first|apply Kd.S_alloc|apply Kd.S_drewN|apply Kd.S_drew));exact Kd.S_mono (Kd.S_far (p:=⟨Mc,5,none⟩) (Kd.S_far (p:=⟨Mc,4,none⟩) (Kd.S_far (p:=⟨Mc,3,none⟩) (Kd.S_far (p:=⟨Mc,2,none⟩) (Kd.S_far (p:=⟨Mc,1,none⟩) (Kd.S_far (p:=⟨Mc,0,none⟩) (Kd.S_types Kb.out Xa.out (by decide)) (fun _ hk=>hk.2) (I L Ub)) (fun _ hk=>hk.2) (I L Jc)) (fun _ hk=>hk.2) (I L Kc)) (fun _ hk=>hk.2) (I L Xc)) (fun _ hk=>hk.2) (Y Oc Mb.length Uc)) (fun _ hk=>hk.2) (Y Kg Ud.length Mg)) (fun _ hk=>hk.1),pB_ HB.out⟩

/-! ### impl_Tree_change: function 19 -/
def impl_Tree_change.f (k : Nat) (a0_0 a0_1 a0_2 a0_3 : Int) (l0_4 : List (S67)) (l0_5 : List (S50)) (a1 : Int) (a2 : (Int → Int → Int → Int → (List (S67)) → Option (Int × Int × Int × Int × List (S67) × Int))) : Option (Int × Int × Int × Int × (List (S67)) × (List (S50)) × Int × Int) := (impl_TreeOk.f k a0_0 a0_1 a0_2 a0_3 l0_4 l0_5).bind fun Xo => (if Xo = true then ((impl_Fair_at.f k a0_0 a0_1 a0_2 a0_3 l0_4 a1).bind fun Jd => (if Jd < 0 then (some (0, 0, 0, 0, ([] : List (S67)), ([] : List (S50)), 0, 4)) else (if 0 ≤ Jd then (if Jd < (l0_5.length : Int) then ((a2 ((rd_T50 l0_5 Jd).f1.f0) ((rd_T50 l0_5 Jd).f1.f1.f0) ((rd_T50 l0_5 Jd).f1.f1.f1) ((rd_T50 l0_5 Jd).f1.f1.f2) ((rd_T50 l0_5 Jd).f1.f2)).bind fun bt411 => (if bt411.2.2.2.2.2 = 0 then ((impl_copyTree.f k a0_0 a0_1 a0_2 a0_3 l0_4 l0_5).bind fun bt420 => (if Jd < (bt420.2.2.2.2.2.length : Int) then (some (bt420.1, bt420.2.1, bt420.2.2.1, bt420.2.2.2.1, bt420.2.2.2.2.1, (bt420.2.2.2.2.2.set (Jd : Int).toNat (⟨(rd_T50 bt420.2.2.2.2.2 Jd).f0, (⟨bt411.1, (⟨bt411.2.1, bt411.2.2.1, bt411.2.2.2.1⟩ : S31), bt411.2.2.2.2.1⟩ : S34)⟩ : S50)), Jd, 0)) else (none))) else (some (0, 0, 0, 0, ([] : List (S67)), ([] : List (S50)), 0, bt411.2.2.2.2.2)))) else (none)) else (none)))) else (some (0, 0, 0, 0, ([] : List (S67)), ([] : List (S50)), 0, 1)))
set_option maxHeartbeats 8000000 in
set_option maxRecDepth 100000 in
theorem impl_Tree_change.calls (k : Nat) (a0_0 a0_1 a0_2 a0_3 : Int) (A0_4 : Option Addr) (c0_4 : Nat) (l0_4 : List (S67)) (A0_5 : Option Addr) (c0_5 : Nat) (l0_5 : List (S50)) (a1 : Int) (a2 : (Int → Int → Int → Int → (List (S67)) → Option (Int × Int × Int × Int × List (S67) × Int))) (fn2 : Nat) (cp2 : Array Value) (r1 r2 r3 r4 : Int) (r5 : List (S67)) (r6 : List (S50)) (r7 r8 : Int) (w : World) (hr0_4 : Kd.C k67 w A0_4 l0_4.length l0_4) (hc0_4 : l0_4.length ≤ c0_4) (hr0_5 : Kd.C k50 w A0_5 l0_5.length l0_5) (hc0_5 : l0_5.length ≤ c0_5) (hq2 : Aside0 (∃ F_, Try.prog.funcs[fn2]? = some F_ ∧ (F_.name == "runtime.NumGoroutine") = false ∧ F_.body.isSome = true)) (HP2_19 : Aside0 (∀ (a900_0 a900_1 a900_2 a900_3 : Int) (A900_4 : Option Addr) (c900_4 : Nat) (l900_4 : List (S67)) (rr0_ rr1_ rr2_ rr3_ : Int) (rr4_ : List (S67)) (rr5_ : Int) (W_ : World), Below w.heap.size w W_ → Kd.C k67 W_ A900_4 l900_4.length l900_4 → l900_4.length ≤ c900_4 → a2 a900_0 a900_1 a900_2 a900_3 l900_4 = some (rr0_, rr1_, rr2_, rr3_, rr4_, rr5_) → Calls Try.prog fn2 (#[.agg #[I L a900_0, I L a900_1, I L a900_2, I L a900_3, Y A900_4 l900_4.length c900_4]] ++ cp2) W_ (fun e w' => ∃ vv4_ : Value, e = .returned (.tuple #[.agg #[I L rr0_, I L rr1_, I L rr2_, I L rr3_, vv4_], I L rr5_]) ∧ Kd.R k67 67 w' W_.heap.size (fun _ => True) vv4_ rr4_ ∧ Below W_.heap.size W_ w'))) (h : impl_Tree_change.f k a0_0 a0_1 a0_2 a0_3 l0_4 l0_5 a1 a2 = some (r1, r2, r3, r4, r5, r6, r7, r8)) :
  Calls Try.prog 19 #[.agg #[I L a0_0,I L a0_1,I L a0_2,I L a0_3,Y A0_4 l0_4.length c0_4,Y A0_5 l0_5.length c0_5],I L a1,.func (.func fn2) #[] cp2] w fun e w'=>∃ v4_ v5_:Value,e=.returned (.tuple #[.agg #[I L r1,I L r2,I L r3,I L r4,v4_,v5_],I L r7,I L r8])∧Kd.R k67 67 w' w.heap.size (fun _=>True) v4_ r5∧Kd.S k50 50 w' w.heap.size (fun k_=>some k_≠(v4_:Value).ownBlock) v5_ r6∧Below w.heap.size w w':=by
 have hu37 := Try.underlying37
 have hu34 := Try.underlying34
 have HR0_4 := D hr0_4
 have HC0_4 := D hc0_4
 clear hr0_4 hc0_4
 have HR0_5 := D hr0_5
 have HC0_5 := D hc0_5
 clear hr0_5 hc0_5
 have HB := D (Below.refl w.heap.size w)
 have H:((impl_TreeOk.f k a0_0 a0_1 a0_2 a0_3 l0_4 l0_5).bind fun Mg=>(if Mg=true then ((impl_Fair_at.f k a0_0 a0_1 a0_2 a0_3 l0_4 a1).bind fun Ja=>(if Ja < 0 then (some (0,0,0,0,([]:List (S67)),([]:List (S50)),0,4)) else (if 0≤Ja then (if Ja < (l0_5.length:Int) then ((a2 ((rd_T50 l0_5 Ja).f1.f0) ((rd_T50 l0_5 Ja).f1.f1.f0) ((rd_T50 l0_5 Ja).f1.f1.f1) ((rd_T50 l0_5 Ja).f1.f1.f2) ((rd_T50 l0_5 Ja).f1.f2)).bind fun bt411=>(if bt411.2.2.2.2.2=0 then ((impl_copyTree.f k a0_0 a0_1 a0_2 a0_3 l0_4 l0_5).bind fun bt420=>(if Ja < (bt420.2.2.2.2.2.length:Int) then (some (bt420.1,bt420.2.1,bt420.2.2.1,bt420.2.2.2.1,bt420.2.2.2.2.1,(bt420.2.2.2.2.2.set (Ja:Int).toNat (⟨(rd_T50 bt420.2.2.2.2.2 Ja).f0,(⟨bt411.1,(⟨bt411.2.1,bt411.2.2.1,bt411.2.2.2.1⟩:S31),bt411.2.2.2.2.1⟩:S34)⟩:S50)),Ja,0)) else (none))) else (some (0,0,0,0,([]:List (S67)),([]:List (S50)),0,bt411.2.2.2.2.2)))) else (none)) else (none)))) else (some (0,0,0,0,([]:List (S67)),([]:List (S50)),0,1))))=some (r1,r2,r3,r4,r5,r6,r7,r8):=h
 clear h
 obtain ⟨Mg, A40, H⟩ := bs_.mp H
 (try dsimp only at H)
 have A4 := D A40
 clear A40
 have HU5 := D H
 clear H
 go_enter Try.func19, Try.ntmps19
 go_upto_if 15 with (first|((with_reducible refine gate_dst (N:=3) rfl ?_);refine bx_ (N:=3) (cs:=#[I L a0_0,I L a0_1,I L a0_2,I L a0_3,Y A0_4 l0_4.length c0_4,Y A0_5 l0_5.length c0_5]) (t:=37) ?_;intro Jd hg w6 hbox hb;have n_:=an_ (below_step (pB_ HB.out) hb)<|an_ (hbox)<|an_ (bg_ hg (pB_ HB.out):w.heap.size≤Jd)<|D (bg_ hg (pB_ HB.out):w.heap.size≤Jd);clear HB;obtain ⟨HB,Ma,Ji,Ki⟩:=n_;clear hb hbox hg)|((with_reducible refine gate_dst (N:=6) rfl ?_);refine bx_ (N:=6) (cs:=#[I L 0,I L 0,I L 0,I L 0,Y none 0 0,Y none 0 0]) (t:=37) ?_;intro Kb hg w7 hbox hb;have n_:=an_ (blk_below (pk_ Ma.out) hb)<|an_ (below_step (pB_ HB.out) hb)<|an_ (hbox)<|an_ (bg_ hg (pB_ HB.out):w.heap.size≤Kb)<|an_ (bg_ hg (pB_ HB.out):w.heap.size≤Kb)<|an_ (nl_ hg (pk_ Ma.out):Jd≠Kb)<|D (by rw [hg];exact Nat.ne_of_gt (blk_lt (pk_ Ma.out)):Kb≠Jd);clear Ma HB;obtain ⟨Ma,HB,Ka,Mi,Oi,Jf,Kf⟩:=n_;clear hb hbox hg;(try have:=Jf.out);(try have:=Kf.out);have Ui:=cells6 Ma.out)|((with_reducible refine gate_callee (f:=39) rfl ?_);refine goesL_ (some 14) rfl rfl Try.func39 (by kernel_rfl) rfl #[.agg #[I L a0_0,I L a0_1,I L a0_2,I L a0_3,Y A0_4 l0_4.length c0_4,Y A0_5 l0_5.length c0_5]] rfl Z14 ?_;(with_reducible refine (impl_TreeOk.calls k a0_0 a0_1 a0_2 a0_3 _ _ l0_4 _ _ l0_5 Mg _ ?side1 ?side2 ?side3 ?side4 A4.out).mono ?_);(case side1=>exact pC_ (Kd.C_below HR0_4.out HB.out));(case side2=>exact HC0_4.out);(case side3=>exact pC_ (Kd.C_below HR0_5.out HB.out));(case side4=>exact HC0_5.out);rintro e w10 ⟨rfl,hb⟩;refine ⟨_,rfl,?_⟩;have n_:=an_ (blk_below (pk_ Ma.out) hb)<|an_ (blk_below (pk_ Ka.out) hb)<|D (below_step (pB_ HB.out) hb);clear Ma Ka HB;obtain ⟨Ma,Ka,HB⟩:=n_;(try clear hb)))
 have H := HU5.out
 clear HU5
 by_cases c11 : Mg = true
 ·subst c11
  rw [if_pos rfl] at H;obtain ⟨Ja,A120,H⟩:=bs_.mp H;(try dsimp only at H);have A12:=D A120;clear A120;have HU13:=D H;clear H;(try have:=Jf.out);(try have:=Kf.out);have Uk:=cells6 Ma.out
  go_upto_if 22 with (first|((with_reducible refine gate_callee (f:=40) rfl ?_);refine goesL_ (some 20) rfl rfl Try.func40 (by kernel_rfl) rfl #[.agg #[I L a0_0,I L a0_1,I L a0_2,I L a0_3,Y A0_4 l0_4.length c0_4],I L a1] rfl Z14 ?_;(with_reducible refine (impl_Fair_at.calls k a0_0 a0_1 a0_2 a0_3 _ _ l0_4 a1 Ja _ ?side1 ?side2 A12.out).mono ?_);(case side1=>exact pC_ (Kd.C_below HR0_4.out HB.out));(case side2=>exact HC0_4.out);rintro e w16 ⟨rfl,hb⟩;refine ⟨_,rfl,?_⟩;have n_:=an_ (blk_below (pk_ Ma.out) hb)<|an_ (blk_below (pk_ Ka.out) hb)<|D (below_step (pB_ HB.out) hb);clear Ma Ka HB;obtain ⟨Ma,Ka,HB⟩:=n_;(try clear hb)))
  have H := HU13.out; clear HU13
  by_cases c17 : Ja < 0
  ·rw [if_pos c17] at H
   have c17b0:decide (Ja < 0)=true:=decide_eq_true c17;clear c17;refine rw_ c17b0 ?_;simp only [Option.some.injEq,Prod.mk.injEq] at H;obtain ⟨rfl,rfl,rfl,rfl,rfl,rfl,rfl,rfl⟩:=H;(try have:=Kf.out);(try have:=Jf.out);have Un:=cells6 Ka.out
   go_wp2
   refine bodyPost_ret (results_ctt rfl _ _ Kb 37 #[I L 0,I L 0,I L 0,I L 0,Y none 0 0,Y none 0 0] (0,0) _ rfl Z4 Try.underlying37 rfl (by kernel_rfl)) rfl ?_;exact ⟨_,_,er_,by first|exact Kd.R_nil _ _ _ _ _|exact Kd.N_nil _ _ _ _ _|exact Kd.V_nil _ _ _ _ _|exact Kd.Q_nil _ _ _ _ _|exact Kd.S_nil _ _ _ _ _,by first|exact Kd.S_nil _ _ _ _ _|exact Kd.N_nil _ _ _ _ _|exact Kd.V_nil _ _ _ _ _|exact Kd.Q_nil _ _ _ _ _|exact Kd.R_nil _ _ _ _ _,pB_ HB.out⟩
  ·rw [if_neg c17] at H
   have c17b0:decide (Ja < 0)=false:=decide_eq_false c17;clear c17;refine rw_ c17b0 ?_
   by_cases c20 : 0 ≤ Ja
   ·rw [if_pos c20] at H
    have c20b0 : decide (0 ≤ Ja) = true := decide_eq_true c20; clear c20
    by_cases c21 : Ja < (l0_5.length : Int)
    ·rw [if_pos c21] at H
     have c21b0:decide (Ja < (l0_5.length:Int))=true:=decide_eq_true c21;clear c21;obtain ⟨⟨Od,Xd,Je,Ke,Xc,Kg⟩,A220,H⟩:=bs_.mp H;(try dsimp only at H);have A22:=D A220;clear A220;have HU23:=D H;clear H;(try have:=Jf.out);(try have:=Kf.out);have Up:=cells6 Ma.out;have p410:0≤(Ja:Int):=od_ Z50;have q410:Ja < (l0_5.length:Int):=od_ Z50;obtain ⟨ad410,A410_5,c410_5,e410,hx410_0,hx410_1,hx410_2,hx410_3,hx410_4,hx410_5,hl410_5,hi410_5⟩:=at_T50 HR0_5.out Ja p410 q410;cases e410;replace hx410_0:=rc_ HB.out hx410_0;replace hx410_1:=rc_ HB.out hx410_1;replace hx410_2:=rc_ HB.out hx410_2;replace hx410_3:=rc_ HB.out hx410_3;replace hx410_4:=rc_ HB.out hx410_4;replace hx410_5:=rc_ HB.out hx410_5;have HR410_5:=D hi410_5;have HC410_5:=D hl410_5;clear hi410_5 hl410_5;replace p410:=eq_true p410;replace q410:=eq_true q410
     go_upto_if 36 with (first|((with_reducible refine gate_calleeV (j:=25) rfl ?_);obtain ⟨_,hF1_,hF2_,hF3_⟩:=hq2.out;refine goesVL_ (some 32) rfl rfl hF1_ hF2_ hF3_ #[.agg #[I L ((rd_T50 l0_5 Ja).f1.f0),I L ((rd_T50 l0_5 Ja).f1.f1.f0),I L ((rd_T50 l0_5 Ja).f1.f1.f1),I L ((rd_T50 l0_5 Ja).f1.f1.f2),Y A410_5 ((rd_T50 l0_5 Ja).f1.f2).length c410_5]] (cp:=cp2) rfl Z52 Z14 ?_;(with_reducible refine (HP2_19.out ((rd_T50 l0_5 Ja).f1.f0) ((rd_T50 l0_5 Ja).f1.f1.f0) ((rd_T50 l0_5 Ja).f1.f1.f1) ((rd_T50 l0_5 Ja).f1.f1.f2) _ _ ((rd_T50 l0_5 Ja).f1.f2) Od Xd Je Ke Xc Kg _ ?side1 ?side2 ?side3 A22.out).mono ?_);(case side1=>exact pB_ HB.out);(case side2=>exact pC_ (Kd.C_below HR410_5.out HB.out));(case side3=>exact HC410_5.out);rintro e w26 ⟨Xr,rfl,ho0,hb⟩;refine ⟨_,rfl,?_⟩;have n_:=an_ (Kd.R_lower ho0 (below_size (pB_ HB.out)))<|an_ (blk_below (pk_ Ma.out) hb)<|an_ (blk_below (pk_ Ka.out) hb)<|D (below_step (pB_ HB.out) hb);clear Ma Ka HB;obtain ⟨Xb,Ma,Ka,HB⟩:=n_;(try clear hb);(try clear ho0))|((with_reducible refine gate_dst (N:=10) rfl ?_);refine bx_ (N:=10) (cs:=#[I L 0,I L 0,I L 0,I L 0,Y none 0 0]) (t:=34) ?_;intro Jc hg w27 hbox hb;have n_:=an_ (Kd.R_below (pR_ Xb.out) hb)<|an_ (blk_below (pk_ Ma.out) hb)<|an_ (blk_below (pk_ Ka.out) hb)<|an_ (below_step (pB_ HB.out) hb)<|an_ (hbox)<|an_ (bg_ hg (pB_ HB.out):w.heap.size≤Jc)<|an_ (bg_ hg (pB_ HB.out):w.heap.size≤Jc)<|an_ (nl_ hg (pk_ Ma.out):Jd≠Jc)<|an_ (ng_ hg (pk_ Ma.out):Jc≠Jd)<|an_ (nl_ hg (pk_ Ka.out):Kb≠Jc)<|D (by rw [hg];exact Nat.ne_of_gt (blk_lt (pk_ Ka.out)):Jc≠Kb);clear Xb Ma Ka HB;obtain ⟨Xb,Ma,Ka,HB,Ua,Js,Ks,Mf,Ug,Xe,Og⟩:=n_;clear hb hbox hg;(try have:=Ug.out);(try have:=Mf.out);(try have:=Og.out);(try have:=Xe.out);have Ms:=cells5 Ua.out;obtain ⟨Me,Oe,eo31⟩:=Kd.R_slice Xb.out;subst eo31))
     refine relet_ (F:=fun w32=>Aside0 (Kd.R k67 67 w32 w.heap.size (fun _=>True) (Y Me Xc.length Oe) Xc)∧Aside0 (w32.heap[Jd]?=some (.cells #[I L a0_0,I L a0_1,I L a0_2,I L a0_3,Y A0_4 l0_4.length c0_4,Y (some ad410) l0_5.length c0_5] 37 (0,0)))∧Aside0 (w32.heap[Kb]?=some (.cells #[I L 0,I L 0,I L 0,I L 0,Y none 0 0,Y none 0 0] 37 (0,0)))∧Aside0 (w32.heap[Jc]?=some (.cells #[I L Od,I L Xd,I L Je,I L Ke,Y Me Xc.length Oe] 34 (0,0)))∧Aside0 (Below w.heap.size w w32)) ⟨⟨rM_ (Kd.R_types Xb.out Ua.out (by decide)) (fun _ hk=>trivial)⟩,⟨pP_ Ma.out⟩,⟨pP_ Ka.out⟩,⟨pP_ Ua.out⟩,⟨pB_ HB.out⟩⟩ ?_;(try clear Xb);(try clear Ma);(try clear Ka);(try clear Ua);(try clear HB);rintro w32 ⟨Xb,Ma,Ka,Ua,HB⟩;have H:=HU23.out;clear HU23
     by_cases c33 : Kg = 0
     ·rw [if_pos c33] at H
      have c33b0:(Kg == 0)=true:=beq_iff_eq.mpr c33;have c33b1:(Kg != 0)=false:=bne_eq_false_iff_eq.mpr c33;clear c33;refine rw_ c33b0 ?_;obtain ⟨⟨Mb,Kc,Uc,Md,Ob,Jb⟩,A340,H⟩:=bs_.mp H;(try dsimp only at H);have A34:=D A340;clear A340
      by_cases c35 : Ja < (Jb.length : Int)
      ·rw [if_pos c35] at H
       have c35b0:decide (Ja < (Jb.length:Int))=true:=decide_eq_true c35;clear c35;obtain ⟨y431,hy431⟩:∃ y_:List (S50),y_=(Jb.set (Ja:Int).toNat (⟨(rd_T50 Jb Ja).f0,(⟨Od,(⟨Xd,Je,Ke⟩:S31),Xc⟩:S34)⟩:S50)):=⟨_,rfl⟩
       replace H:(some (Mb,Kc,Uc,Md,Ob,y431,Ja,0))=some (r1,r2,r3,r4,r5,r6,r7,r8):=by first|(rw [hy431];with_reducible exact H)|(have H2_:=(Option.bind_some _ _).symm.trans H;rw [hy431];with_reducible exact H2_)|(have H2_:=(Option.bind_some _ _).symm.trans H;with_reducible exact H2_)|with_reducible exact H|(rw [hy431];exact H)|exact H
       have Ny431:=D hy431;clear hy431;simp only [Option.some.injEq,Prod.mk.injEq] at H;obtain ⟨rfl,rfl,rfl,rfl,rfl,rfl,rfl,rfl⟩:=H;(try have:=Jf.out);(try have:=Kf.out);(try have:=Mf.out);(try have:=Ug.out);have Jv:=cells6 Ma.out
       go_wp2_with (first|((with_reducible refine gate_callee (f:=41) rfl ?_);refine goesL_ (some 40) rfl rfl Try.func41 (by kernel_rfl) rfl #[.agg #[I L a0_0,I L a0_1,I L a0_2,I L a0_3,Y A0_4 l0_4.length c0_4,Y (some ad410) l0_5.length c0_5]] rfl Z14 ?_;(with_reducible refine (impl_copyTree.calls k a0_0 a0_1 a0_2 a0_3 _ _ l0_4 _ _ l0_5 Mb Kc Uc Md Ob Jb _ ?side1 ?side2 ?side3 ?side4 A34.out).mono ?_);(case side1=>exact pC_ (Kd.C_below HR0_4.out HB.out));(case side2=>exact HC0_4.out);(case side3=>exact pC_ (Kd.C_below HR0_5.out HB.out));(case side4=>exact HC0_5.out);rintro e w40 ⟨Jy,Ky,rfl,ho0,ho1,hb⟩;refine ⟨_,rfl,?_⟩;have n_:=an_ (Kd.R_elder' (pR_ Xb.out) (Kd.R_base ho0) hb)<|an_ (Kd.R_lower (nw_ ho0 (pR_ Xb.out)) (below_size (pB_ HB.out)))<|an_ (Kd.S_lower (Kd.S_new' ho1 (Kd.R_lt (pR_ Xb.out))) (below_size (pB_ HB.out)))<|an_ (blk_below (pk_ Ma.out) hb)<|an_ (blk_below (pk_ Ka.out) hb)<|an_ (blk_below (pk_ Ua.out) hb)<|D (below_step (pB_ HB.out) hb);clear Xb Ma Ka Ua HB;obtain ⟨Xb,Ue,Ub,Ma,Ka,Ua,HB⟩:=n_;(try clear hb);(try clear ho0);(try clear ho1))|((with_reducible refine gate_dst (N:=12) rfl ?_);refine bx_ (N:=12) (cs:=#[I L 0,I L 0,I L 0,I L 0,Y none 0 0,Y none 0 0]) (t:=37) ?_;intro Xa hg w41 hbox hb;have n_:=an_ (Kd.R_below (pR_ Xb.out) hb)<|an_ (Kd.R_below (pR_ Ue.out) hb)<|an_ (Kd.S_below (pS_ Ub.out) hb)<|an_ (blk_below (pk_ Ma.out) hb)<|an_ (blk_below (pk_ Ka.out) hb)<|an_ (blk_below (pk_ Ua.out) hb)<|an_ (below_step (pB_ HB.out) hb)<|an_ (hbox)<|an_ (bg_ hg (pB_ HB.out):w.heap.size≤Xa)<|an_ (bg_ hg (pB_ HB.out):w.heap.size≤Xa)<|an_ (nl_ hg (pk_ Ma.out):Jd≠Xa)<|an_ (ng_ hg (pk_ Ma.out):Xa≠Jd)<|an_ (nl_ hg (pk_ Ka.out):Kb≠Xa)<|an_ (ng_ hg (pk_ Ka.out):Xa≠Kb)<|an_ (nl_ hg (pk_ Ua.out):Jc≠Xa)<|D (by rw [hg];exact Nat.ne_of_gt (blk_lt (pk_ Ua.out)):Xa≠Jc);clear Xb Ue Ub Ma Ka Ua HB;obtain ⟨Xb,Ue,Ub,Ma,Ka,Ua,HB,Oa,My,Oy,Of,Jh,Uf,Kh,Xf,Mh⟩:=n_;clear hb hbox hg;(try have:=Jh.out);(try have:=Of.out);(try have:=Kh.out);(try have:=Uf.out);(try have:=Mh.out);(try have:=Xf.out);have Uy:=cells6 Oa.out;obtain ⟨Mc,Oc,eo46⟩:=Kd.R_slice Ue.out;subst eo46;obtain ⟨Jg,Ud,eo47⟩:=Kd.S_slice Ub.out;subst eo47)|((with_reducible refine gate_store (t:=37) (p:=12) rfl ?_);refine store_event (t:=37) (p:=12) (v:=?vo_w48) (w1:=((((((w41.setCell ⟨Xa,0,none⟩ (I L Mb)).setCell ⟨Xa,1,none⟩ (I L Kc)).setCell ⟨Xa,2,none⟩ (I L Uc)).setCell ⟨Xa,3,none⟩ (I L Md)).setCell ⟨Xa,4,none⟩ (Y Mc Ob.length Oc)).setCell ⟨Xa,5,none⟩ (Y Jg Jb.length Ud))) ?hg ?ho ?hn ?hr ?_;(case ho=>rfl);(case hg=>rfl);(case hn=>rfl);(case hr=>first|(go_simp;done)|(go_simp;rfl));intro w48 hw;have n0_:Aside0 (Kd.R k67 67 w48 w.heap.size (fun k_=>some k_≠(Y Mc Ob.length Oc:Value).ownBlock) (Y Me Xc.length Oe) Xc):=⟨(by rw [hw];exact (rM_ (Kd.R_types Xb.out Oa.out (by decide)) (fun _ hk=>hk.1.2)))⟩;have n1_:Aside0 (Kd.R k67 67 w48 w.heap.size (fun k_=>some k_≠(Y Me Xc.length Oe:Value).ownBlock) (Y Mc Ob.length Oc) Ob):=⟨(by rw [hw];exact (rM_ (Kd.R_types Ue.out Oa.out (by decide)) (fun _ hk=>hk.1.2)))⟩;have n2_:Aside0 (Kd.S k50 50 w48 w.heap.size (fun k_=>some k_≠(Y Me Xc.length Oe:Value).ownBlock∧some k_≠(Y Mc Ob.length Oc:Value).ownBlock) (Y Jg Jb.length Ud) Jb):=⟨(by rw [hw];exact (sM_ (Kd.S_types Ub.out Oa.out (by decide)) (fun _ hk=>⟨hk.1.2,hk.1.1⟩)))⟩;have n3_:Aside0 (w48.heap[Jd]?=some (.cells #[I L a0_0,I L a0_1,I L a0_2,I L a0_3,Y A0_4 l0_4.length c0_4,Y (some ad410) l0_5.length c0_5] 37 (0,0))):=⟨(by rw [hw];exact (by exact pP_ Ma.out))⟩;have n4_:Aside0 (w48.heap[Kb]?=some (.cells #[I L 0,I L 0,I L 0,I L 0,Y none 0 0,Y none 0 0] 37 (0,0))):=⟨(by rw [hw];exact (by exact pP_ Ka.out))⟩;have n5_:Aside0 (w48.heap[Jc]?=some (.cells #[I L Od,I L Xd,I L Je,I L Ke,Y Me Xc.length Oe] 34 (0,0))):=⟨(by rw [hw];exact (by exact pP_ Ua.out))⟩;have n6_:Aside0 (w48.heap[Xa]?=some (.cells #[I L Mb,I L Kc,I L Uc,I L Md,Y Mc Ob.length Oc,Y Jg Jb.length Ud] 37 (0,0))):=⟨(by rw [hw];exact (by exact pP_ Oa.out))⟩;have n7_:Aside0 (Below w.heap.size w w48):=⟨(by rw [hw];exact (pB_ HB.out))⟩;clear hw;clear Xb;clear Ue;clear Ub;clear Ma;clear Ka;clear Ua;clear Oa;clear HB;have Xb:=n0_;have Ue:=n1_;have Ub:=n2_;have Ma:=n3_;have Ka:=n4_;have Ua:=n5_;have Oa:=n6_;have HB:=n7_;clear n0_ n1_ n2_ n3_ n4_ n5_ n6_ n7_;have Ua1:=cells6 Oa.out;(try have:=Og.out);(try have:=Xe.out);have Uc1:=cells5 Ua.out;have p36:0≤(Ja:Int):=od_ Z50;have q36:(Ja:Int) < ((Jb.length:Int):Int):=od_ Z50;obtain ⟨go36,Me1,eo36,Xg,gl36,cl36,HG36⟩:=Kd.S_form Ub.out (by omega);(first|cases eo36|(injection eo36 with ea_ en_ ec_;(first|subst ea_|(injection ea_ with ea_;subst ea_));subst ec_;clear en_));have GB36:=D Xg;have GG36:=D HG36;clear Xg gl36 HG36;obtain ⟨_,ce36,hcl36,hM36,hcc36,hfr36,_,_⟩:=Kd.S_elem Ub.out z50 (Ja:Int) p36 q36;obtain ⟨ve36_5,rfl,ge36_5⟩:=k50_openM hM36;have hx36_0:w48.cell? ⟨go36,(Ja:Int).toNat * 6,none⟩=some (I L ((rd_T50 Jb Ja).f0)):=hcc36 0 _ rfl;have hx36_1:w48.cell? ⟨go36,(Ja:Int).toNat * 6 + 1,none⟩=some (I L ((rd_T50 Jb Ja).f1.f0)):=hcc36 1 _ rfl;have hx36_2:w48.cell? ⟨go36,(Ja:Int).toNat * 6 + 2,none⟩=some (I L ((rd_T50 Jb Ja).f1.f1.f0)):=hcc36 2 _ rfl;have hx36_3:w48.cell? ⟨go36,(Ja:Int).toNat * 6 + 3,none⟩=some (I L ((rd_T50 Jb Ja).f1.f1.f1)):=hcc36 3 _ rfl;have hx36_4:w48.cell? ⟨go36,(Ja:Int).toNat * 6 + 4,none⟩=some (I L ((rd_T50 Jb Ja).f1.f1.f2)):=hcc36 4 _ rfl;have hx36_5:w48.cell? ⟨go36,(Ja:Int).toNat * 6 + 5,none⟩=some (ve36_5):=hcc36 5 _ rfl;have hf36_0:w48.frozen? ⟨go36,(Ja:Int).toNat * 6,none⟩=false:=hfr36 0;have hf36_1:w48.frozen? ⟨go36,(Ja:Int).toNat * 6 + 1,none⟩=false:=hfr36 1;have hf36_2:w48.frozen? ⟨go36,(Ja:Int).toNat * 6 + 2,none⟩=false:=hfr36 2;have hf36_3:w48.frozen? ⟨go36,(Ja:Int).toNat * 6 + 3,none⟩=false:=hfr36 3;have hf36_4:w48.frozen? ⟨go36,(Ja:Int).toNat * 6 + 4,none⟩=false:=hfr36 4;have hf36_5:w48.frozen? ⟨go36,(Ja:Int).toNat * 6 + 5,none⟩=false:=hfr36 5;clear hcl36 hcc36 hfr36 hM36;replace p36:=eq_true p36;replace q36:=eq_true q36;have HX52:=D (show Kd.S k50 50 w48 w.heap.size (fun k_=>((fun k_=>some k_≠(Y Mc Ob.length Oc:Value).ownBlock)) k_∧¬ ((fun k_=>some k_=(Y Me Xc.length Oe:Value).ownBlock)) k_) (Y (some ⟨go36,0,none⟩) Jb.length Ud) Jb from (pS_ (Kd.S_mono Ub.out (fun k_ hk=>⟨hk.2,fun e_=>hk.1 e_⟩))));obtain ⟨oki52,ce52,hcl52,hM52,hcc52,hfr52,hoki52,hH52⟩:=Kd.S_elem HX52.out z50 (Ja:Int) (od_ Z50) (by have h_:(Ja:Int) < ((Jb.length:Int):Int):=od_ Z50;first|exact h_|(have e_:=(Kd.S_reads' Ub.out).1;omega)|simpa using h_);obtain ⟨ve52_5,rfl,ge52_5⟩:=k50_openM hM52;have HP52:=Kd.S_seg hH52 (od_ Z50) (by have h_:(Ja:Int) < ((Jb.length:Int):Int):=od_ Z50;first|exact h_|(have e_:=(Kd.S_reads' Ub.out).1;omega)|simpa using h_) (seg:=[I L Od,I L Xd,I L Je,I L Ke,Y Me Xc.length Oe]) (j:=1) (show 6≤6 from by decide) (x':=(⟨(rd_T50 Jb Ja).f0,(⟨Od,(⟨Xd,Je,Ke⟩:S31),Xc⟩:S34)⟩:S50)) (k50_mkM _ _ _ (⟨(rd_T50 Jb Ja).f0,(⟨Od,(⟨Xd,Je,Ke⟩:S31),Xc⟩:S34)⟩:S50) (Kd.R_mono (Kd.R_tight rfl (Kd.R_mono (ok':=fun k_=>((fun k_=>some k_≠(Y Mc Ob.length Oc:Value).ownBlock)) k_∧k_≠go36) (Kd.R_apart' (Xb.out) (Kd.S_typed Ub.out) (by decide)) (fun k_ hk=>⟨hk.1,fun e_=>(hk.2) (by rw [e_];rfl)⟩))) (fun _ h_=>Or.inr (h_)))) (fun _ hk=>hk) (fun k_ hk_=>((Kd.R_mono (ok':=fun k_=>((fun k_=>some k_≠(Y Mc Ob.length Oc:Value).ownBlock)) k_∧k_≠go36) (Kd.R_apart' (Xb.out) (Kd.S_typed Ub.out) (by decide)) (fun k_ hk=>⟨hk.1,fun e_=>(hk.2) (by rw [e_];rfl)⟩))).1 k_ hk_.symm);have hx52_1:=hcc52 1 _ rfl;(try simp only [show (k50).sz=6 from rfl,Nat.mul_one,Nat.add_zero] at hx52_1);have hf52_1:=hfr52 1;(try simp only [show (k50).sz=6 from rfl,Nat.mul_one,Nat.add_zero] at hf52_1);have hx52_2:=hcc52 2 _ rfl;(try simp only [show (k50).sz=6 from rfl,Nat.mul_one,Nat.add_zero] at hx52_2);have hf52_2:=hfr52 2;(try simp only [show (k50).sz=6 from rfl,Nat.mul_one,Nat.add_zero] at hf52_2);have hx52_3:=hcc52 3 _ rfl;(try simp only [show (k50).sz=6 from rfl,Nat.mul_one,Nat.add_zero] at hx52_3);have hf52_3:=hfr52 3;(try simp only [show (k50).sz=6 from rfl,Nat.mul_one,Nat.add_zero] at hf52_3);have hx52_4:=hcc52 4 _ rfl;(try simp only [show (k50).sz=6 from rfl,Nat.mul_one,Nat.add_zero] at hx52_4);have hf52_4:=hfr52 4;(try simp only [show (k50).sz=6 from rfl,Nat.mul_one,Nat.add_zero] at hf52_4);have hx52_5:=hcc52 5 _ rfl;(try simp only [show (k50).sz=6 from rfl,Nat.mul_one,Nat.add_zero] at hx52_5);have hf52_5:=hfr52 5;(try simp only [show (k50).sz=6 from rfl,Nat.mul_one,Nat.add_zero] at hf52_5);clear hcl52 hcc52 hfr52 hM52 hoki52 hH52)|((with_reducible refine gate_store (t:=34) (p:=46) rfl ?_);refine store_event (t:=34) (p:=46) (v:=?vo_w53) (w1:=(((((w48.setCell ⟨go36,(Ja:Int).toNat * 6 + 1,none⟩ (I L Od)).setCell ⟨go36,(Ja:Int).toNat * 6 + 2,none⟩ (I L Xd)).setCell ⟨go36,(Ja:Int).toNat * 6 + 3,none⟩ (I L Je)).setCell ⟨go36,(Ja:Int).toNat * 6 + 4,none⟩ (I L Ke)).setCell ⟨go36,(Ja:Int).toNat * 6 + 5,none⟩ (Y Me Xc.length Oe))) ?hg ?ho ?hn ?hr ?_;(case ho=>rfl);(case hg=>rfl);(case hn=>rfl);(case hr=>first|(go_simp;done)|(go_simp;rfl));intro w53 hw;have hg:w48.grownBy w53 (some go36):=(by rw [hw];exact HP52.2);have hp_:Kd.S k50 50 w53 w.heap.size (fun k_=>some k_≠(Y Mc Ob.length Oc:Value).ownBlock) (Y (some ⟨go36,0,none⟩) Jb.length Ud) y431:=(by rw [hw,Ny431.out];exact HP52.1);clear HP52;have n_:=an_ (blk_grown (pk_ Ma.out) hg (Kd.S_ne Ub.out Ma.out (by decide)))<|an_ (blk_grown (pk_ Ka.out) hg (Kd.S_ne Ub.out Ka.out (by decide)))<|an_ (blk_grown (pk_ Ua.out) hg (Kd.S_ne Ub.out Ua.out (by decide)))<|an_ (Kd.R_over' (v:=(Y (some ⟨go36,0,none⟩) Jb.length Ud)) (pR_ Ue.out) (Kd.S_typed Ub.out) (by decide) hg)<|an_ (hp_)<|an_ (blk_grown (pk_ Oa.out) hg (Kd.S_ne Ub.out Oa.out (by decide)))<|D (by rw [hw];exact below_set (below_set (below_set (below_set (below_set (HB.out) GB36.out) GB36.out) GB36.out) GB36.out) GB36.out:Below w.heap.size w w53);clear Ma Ka Ua Ue Ub Oa HB Xb;obtain ⟨Ma,Ka,Ua,Ue,Ub,Oa,HB⟩:=n_;clear hg hw hp_;have Oe1:=cells6 Oa.out;have Og1:=cells6 Ka.out))
       refine bodyPost_ret (results_ctt rfl _ _ Kb 37 #[I L Mb,I L Kc,I L Uc,I L Md,Y Mc Ob.length Oc,Y (some ⟨go36,0,none⟩) Jb.length Ud] (0,0) _ rfl (by exact pP_ Ka.out) Try.underlying37 rfl (by kernel_rfl)) rfl ?_;exact ⟨_,_,er_,by (with_reducible repeat (first|apply Kd.R_alloc|apply Kd.R_drewN|apply Kd.R_drew));exact Kd.R_mono (fr_ (fr_ (fr_ (fr_ (fr_ (fr_ (Kd.R_types Ue.out Ka.out (by decide)) 0 (I L Mb)) 1 (I L Kc)) 2 (I L Uc)) 3 (I L Md)) 4 (Y Mc Ob.length Oc)) 5 (Y (some ⟨go36,0,none⟩) Jb.length Ud)) (fun _ hk=>trivial),by (with_reducible repeat (first|apply Kd.S_alloc|apply Kd.S_drewN|apply Kd.S_drew));exact Kd.S_mono (Kd.S_far (p:=⟨Kb,5,none⟩) (Kd.S_far (p:=⟨Kb,4,none⟩) (Kd.S_far (p:=⟨Kb,3,none⟩) (Kd.S_far (p:=⟨Kb,2,none⟩) (Kd.S_far (p:=⟨Kb,1,none⟩) (Kd.S_far (p:=⟨Kb,0,none⟩) (Kd.S_types Ub.out Ka.out (by decide)) (fun _ hk=>hk.2) (I L Mb)) (fun _ hk=>hk.2) (I L Kc)) (fun _ hk=>hk.2) (I L Uc)) (fun _ hk=>hk.2) (I L Md)) (fun _ hk=>hk.2) (Y Mc Ob.length Oc)) (fun _ hk=>hk.2) (Y (some ⟨go36,0,none⟩) Jb.length Ud)) (fun _ hk=>hk.1),pB_ HB.out⟩
      ·rw [if_neg c35] at H
       exact absurd H (by simp)
     ·rw [if_neg c33] at H
      have c33b0:(Kg == 0)=false:=beq_eq_false_iff_ne.mpr c33;have c33b1:(Kg != 0)=true:=bne_iff_ne.mpr c33;refine rw_ c33b0 ?_;simp only [Option.some.injEq,Prod.mk.injEq] at H;obtain ⟨rfl,rfl,rfl,rfl,rfl,rfl,rfl,rfl⟩:=H;(try have:=Kf.out);(try have:=Jf.out);(try have:=Xe.out);(try have:=Og.out);have Oi1:=cells6 Ka.out
      go_wp2
      refine bodyPost_ret (results_ctt rfl _ _ Kb 37 #[I L 0,I L 0,I L 0,I L 0,Y none 0 0,Y none 0 0] (0,0) _ rfl Z4 Try.underlying37 rfl (by kernel_rfl)) rfl ?_;exact ⟨_,_,er_,by first|exact Kd.R_nil _ _ _ _ _|exact Kd.N_nil _ _ _ _ _|exact Kd.V_nil _ _ _ _ _|exact Kd.Q_nil _ _ _ _ _|exact Kd.S_nil _ _ _ _ _,by first|exact Kd.S_nil _ _ _ _ _|exact Kd.N_nil _ _ _ _ _|exact Kd.V_nil _ _ _ _ _|exact Kd.Q_nil _ _ _ _ _|exact Kd.R_nil _ _ _ _ _,pB_ HB.out⟩
    ·rw [if_neg c21] at H
     exact absurd H (by simp)
   ·rw [if_neg c20] at H
    exact absurd H (by simp)
 ·replace c11 := Bool.eq_false_iff.mpr c11
  subst c11;rw [if_neg (show ¬ (false=true) by decide)] at H;simp only [Option.some.injEq,Prod.mk.injEq] at H;obtain ⟨rfl,rfl,rfl,rfl,rfl,rfl,rfl,rfl⟩:=H;(try have:=Kf.out);(try have:=Jf.out);have Ok1:=cells6 Ka.out
  go_wp2
  refine bodyPost_ret (results_ctt rfl _ _ Kb 37 #[I L 0,I L 0,I L 0,I L 0,Y none 0 0,Y none 0 0] (0,0) _ rfl Z4 Try.underlying37 rfl (by kernel_rfl)) rfl ?_;exact ⟨_,_,er_,by first|exact Kd.R_nil _ _ _ _ _|exact Kd.N_nil _ _ _ _ _|exact Kd.V_nil _ _ _ _ _|exact Kd.Q_nil _ _ _ _ _|exact Kd.S_nil _ _ _ _ _,by first|exact Kd.S_nil _ _ _ _ _|exact Kd.N_nil _ _ _ _ _|exact Kd.V_nil _ _ _ _ _|exact Kd.Q_nil _ _ _ _ _|exact Kd.R_nil _ _ _ _ _,pB_ HB.out⟩

/-! ### impl_both: function 74 -/
def impl_both.f (a0_0 a0_1 a0_2 a1_0 a1_1 a1_2 : Int) (a2 : (Int → Int → Option (Int))) : Option (Int × Int × Int) := (a2 a0_0 a1_0).bind fun Oh => ((a2 a0_1 a1_1).bind fun Uh => ((a2 a0_2 a1_2).bind fun Xh => (some (Oh, Uh, Xh))))
def impl_both.T1 : Bool × List (List Nat × List Nat) := (true, [([], []), ([], []), ([1], [1]), ([], []), ([3], [3]), ([0, 2, 4], [0, 2, 4]), ([], []), ([], []), ([7], [7]), ([], []), ([9], [9]), ([6, 8, 10, 5], [6, 8, 10]), ([], []), ([], []), ([13], [13]), ([], []), ([15], [15]), ([12, 14, 16, 11], [12, 14, 16]), ([5, 11, 17], [5, 11, 17]), ([18, 17, 0, 1, 2, 3, 4, 5, 6, 7, 8, 9, 10, 11, 12, 13, 14, 15, 16, 17, 18], [18])])
def impl_both.B1 : List Nat := [0, 0, 2, 0, 8, 31, 0, 0, 128, 0, 512, 2047, 0, 0, 8192, 0, 32768, 131071, 262143, 524287]
theorem impl_both.tab1 : rtab .any (opsOf Try.f74 1) = impl_both.T1 := by kernel_rfl
theorem impl_both.bits1 : waitsOk impl_both.T1.2 impl_both.B1 = true := by kernel_rfl
set_option maxHeartbeats 8000000 in
set_option maxRecDepth 100000 in
theorem impl_both.calls (a0_0 a0_1 a0_2 a1_0 a1_1 a1_2 : Int) (a2 : (Int → Int → Option (Int))) (fn2 : Nat) (cp2 : Array Value) (r1 r2 r3 : Int) (w : World) (hq2 : Aside0 (∃ F_, Try.prog.funcs[fn2]? = some F_ ∧ (F_.name == "runtime.NumGoroutine") = false ∧ F_.body.isSome = true)) (HP2_74 : Aside0 (∀ (a900 a901 rr0_ : Int) (W_ : World), Below w.heap.size w W_ → a2 a900 a901 = some rr0_ → Calls Try.prog fn2 (#[I L a900, I L a901] ++ cp2) W_ (fun e w' => e = .returned (I L rr0_) ∧ Below W_.heap.size W_ w'))) (h : impl_both.f a0_0 a0_1 a0_2 a1_0 a1_1 a1_2 a2 = some (r1, r2, r3)) :
  Calls Try.prog 74 #[.agg #[I L a0_0,I L a0_1,I L a0_2],.agg #[I L a1_0,I L a1_1,I L a1_2],.func (.func fn2) #[] cp2] w fun e w'=>e=.returned (.agg #[I L r1,I L r2,I L r3])∧Below w.heap.size w w':=by
 have hu31 := Try.underlying31
 have HB := D (Below.refl w.heap.size w)
 have H : ((a2 a0_0 a1_0).bind fun t435 => ((a2 a0_1 a1_1).bind fun t436 => ((a2 a0_2 a1_2).bind fun t437 => (some (t435, t436, t437))))) = some (r1, r2, r3) := h
 clear h
 obtain ⟨t435, A40, H⟩ := bs_.mp H
 (try dsimp only at H)
 have A4 := D A40
 clear A40
 obtain ⟨t436, A50, H⟩ := bs_.mp H
 (try dsimp only at H)
 have A5 := D A50
 clear A50
 obtain ⟨t437, A60, H⟩ := bs_.mp H
 (try dsimp only at H)
 have A6 := D A60
 clear A60
 simp only [Option.some.injEq, Prod.mk.injEq] at H
 obtain ⟨rfl, rfl, rfl⟩ := H
 go_enter Try.func74, Try.ntmps74
 try go_wp2_with (first|((with_reducible refine gate_dst (N:=3) rfl ?_);refine bx_ (N:=3) (cs:=#[I L a0_0,I L a0_1,I L a0_2]) (t:=31) ?_;intro gb432 hg w7 hbox hb;have n_:=an_ (below_step (pB_ HB.out) hb)<|an_ (hbox)<|an_ (bg_ hg (pB_ HB.out):w.heap.size≤gb432)<|D (bg_ hg (pB_ HB.out):w.heap.size≤gb432);clear HB;obtain ⟨HB,BK432,GW432,GE432⟩:=n_;clear hb hbox hg)|((with_reducible refine gate_dst (N:=4) rfl ?_);refine bx_ (N:=4) (cs:=#[I L a1_0,I L a1_1,I L a1_2]) (t:=31) ?_;intro gb433 hg w8 hbox hb;have n_:=an_ (blk_below (pk_ BK432.out) hb)<|an_ (below_step (pB_ HB.out) hb)<|an_ (hbox)<|an_ (bg_ hg (pB_ HB.out):w.heap.size≤gb433)<|an_ (bg_ hg (pB_ HB.out):w.heap.size≤gb433)<|an_ (nl_ hg (pk_ BK432.out):gb432≠gb433)<|D (by rw [hg];exact Nat.ne_of_gt (blk_lt (pk_ BK432.out)):gb433≠gb432);clear BK432 HB;obtain ⟨BK432,HB,BK433,GW433,GE433,NB432_433,NB433_432⟩:=n_;clear hb hbox hg)|((with_reducible refine gate_dst (N:=6) rfl ?_);refine bx_ (N:=6) (cs:=#[I L 0,I L 0,I L 0]) (t:=31) ?_;intro gb434 hg w9 hbox hb;have n_:=an_ (blk_below (pk_ BK432.out) hb)<|an_ (blk_below (pk_ BK433.out) hb)<|an_ (below_step (pB_ HB.out) hb)<|an_ (hbox)<|an_ (bg_ hg (pB_ HB.out):w.heap.size≤gb434)<|an_ (bg_ hg (pB_ HB.out):w.heap.size≤gb434)<|an_ (nl_ hg (pk_ BK432.out):gb432≠gb434)<|an_ (ng_ hg (pk_ BK432.out):gb434≠gb432)<|an_ (nl_ hg (pk_ BK433.out):gb433≠gb434)<|D (by rw [hg];exact Nat.ne_of_gt (blk_lt (pk_ BK433.out)):gb434≠gb433);clear BK432 BK433 HB;obtain ⟨BK432,BK433,HB,BK434,GW434,GE434,NB432_434,NB434_432,NB433_434,NB434_433⟩:=n_;clear hb hbox hg))
 have n_ := an_ (blk_drew BK432.out) <| an_ (blk_drew BK433.out) <| an_ (blk_drew BK434.out) <| D (below_drew1 HB.out)
 clear BK432 BK433 BK434 HB
 obtain ⟨BK432, BK433, BK434, HB⟩ := n_
 refine start_ (n:=20) (S:=fun w'=>w'.cell? ⟨gb432,0,none⟩=some (I L a0_0)∧w'.cell? ⟨gb432,1,none⟩=some (I L a0_1)∧w'.cell? ⟨gb432,2,none⟩=some (I L a0_2)∧w'.cell? ⟨gb433,0,none⟩=some (I L a1_0)∧w'.cell? ⟨gb433,1,none⟩=some (I L a1_1)∧w'.cell? ⟨gb433,2,none⟩=some (I L a1_2)) (ds:=[]) (bz 20 0) (by kernel_rfl) rfl (by kernel_rfl) (bk3_ BK432.out (be3_ BK433.out)) (fun hHeld=>?_);refine with_tabW impl_both.tab1 impl_both.bits1 (fun HT_ HW_=>?_)
 generalize w9.drew = w10 at BK432 BK433 BK434 HB hHeld ⊢
 refine pb_ 0 ?_
 refine pb_ 1 ?_
 refine pb_ 3 ?_
 refine pb_ 6 ?_
 refine pb_ 7 ?_
 refine pb_ 9 ?_
 refine pb_ 12 ?_
 refine pb_ 13 ?_
 refine pb_ 15 ?_
 refine tb_ 2 rfl rfl hHeld Z47 ?_
 refine tb_ 4 rfl rfl hHeld Z47 ?_
 refine tb_ 8 rfl rfl hHeld Z47 ?_
 refine tb_ 10 rfl rfl hHeld Z47 ?_
 refine tb_ 14 rfl rfl hHeld Z47 ?_
 refine tb_ 16 rfl rfl hHeld Z47 ?_
 refine oa_ 5 12 20 129023 HT_ (fun K hK => ?_)
 obtain ⟨_, hF1_, hF2_, hF3_⟩ := hq2.out
 refine goesV_ hF1_ hF2_ hF3_ #[I L a0_0, I L a1_0] (cp := cp2) (by rfl) rfl rfl Z52 Z14 ?_
 with_reducible refine (HP2_74.out a0_0 a1_0 t435 _ ?side1 A4.out).mono ?_
 (case side1 => exact pB_ HB.out)
 rintro e w11 ⟨rfl, hb⟩
 refine ⟨_, rfl, ?_⟩
 have n_ := an_ (blk_below (pk_ BK432.out) hb) <| an_ (blk_below (pk_ BK433.out) hb) <| an_ (blk_below (pk_ BK434.out) hb) <| D (below_step (pB_ HB.out) hb)
 clear BK432 BK433 BK434 HB
 obtain ⟨BK432, BK433, BK434, HB⟩ := n_
 (try clear hb)
 (try clear hb2)
 (try clear hk)
 (try clear hi)
 refine hK.out _ _ (bk3_ BK432.out (be3_ BK433.out)) (fun hHeld=>?_)
 clear hK K
 refine nx_ (N := some 12) ?_
 refine oa_ 11 18 20 131071 HT_ (fun K hK => ?_)
 obtain ⟨_, hF1_, hF2_, hF3_⟩ := hq2.out
 refine goesV_ hF1_ hF2_ hF3_ #[I L a0_1, I L a1_1] (cp := cp2) (by rfl) rfl rfl Z52 Z14 ?_
 with_reducible refine (HP2_74.out a0_1 a1_1 t436 _ ?side1 A5.out).mono ?_
 (case side1 => exact pB_ HB.out)
 rintro e w12 ⟨rfl, hb⟩
 refine ⟨_, rfl, ?_⟩
 have n_ := an_ (blk_below (pk_ BK432.out) hb) <| an_ (blk_below (pk_ BK433.out) hb) <| an_ (blk_below (pk_ BK434.out) hb) <| D (below_step (pB_ HB.out) hb)
 clear BK432 BK433 BK434 HB
 obtain ⟨BK432, BK433, BK434, HB⟩ := n_
 (try clear hb)
 (try clear hb2)
 (try clear hk)
 (try clear hi)
 refine hK.out _ _ (bk3_ BK432.out (be3_ BK433.out)) (fun hHeld=>?_)
 clear hK K
 refine nx_ (N := some 18) ?_
 refine oa_ 17 24 20 262143 HT_ (fun K hK => ?_)
 obtain ⟨_, hF1_, hF2_, hF3_⟩ := hq2.out
 refine goesV_ hF1_ hF2_ hF3_ #[I L a0_2, I L a1_2] (cp := cp2) (by rfl) rfl rfl Z52 Z14 ?_
 with_reducible refine (HP2_74.out a0_2 a1_2 t437 _ ?side1 A6.out).mono ?_
 (case side1 => exact pB_ HB.out)
 rintro e w13 ⟨rfl, hb⟩
 refine ⟨_, rfl, ?_⟩
 have n_ := an_ (blk_below (pk_ BK432.out) hb) <| an_ (blk_below (pk_ BK433.out) hb) <| an_ (blk_below (pk_ BK434.out) hb) <| D (below_step (pB_ HB.out) hb)
 clear BK432 BK433 BK434 HB
 obtain ⟨BK432, BK433, BK434, HB⟩ := n_
 (try clear hb)
 (try clear hb2)
 (try clear hk)
 (try clear hi)
 refine hK.out _ _ (bk3_ BK432.out (be3_ BK433.out)) (fun hHeld=>?_)
 clear hK K
 refine nx_ (N := some 24) ?_
 refine pb_ 18 ?_
 refine one_ (i := 19) (N := none) (bz 20 1048575) rfl rfl (one_of HT_.out (by kernel_rfl)) (by decide) (fun K hK => ?_)
 have hs14 : w13.cell? ⟨gb434, 0, none⟩ = some (I L 0) := (bc_ BK434.out 0)
 have hfs14 := blk_frozen BK434.out 0
 have hns14_0 := NB432_434.out
 have hns14_1 := NB433_434.out
 have hms14_0 := NB434_432.out
 have hms14_1 := NB434_433.out
 have hs15 : w13.cell? ⟨gb434, 1, none⟩ = some (I L 0) := (bc_ BK434.out 1)
 have hfs15 := blk_frozen BK434.out 1
 have hns15_0 := NB432_434.out
 have hns15_1 := NB433_434.out
 have hms15_0 := NB434_432.out
 have hms15_1 := NB434_433.out
 have hs16 : w13.cell? ⟨gb434, 2, none⟩ = some (I L 0) := (bc_ BK434.out 2)
 have hfs16 := blk_frozen BK434.out 2
 have hns16_0 := NB432_434.out
 have hns16_1 := NB433_434.out
 have hms16_0 := NB434_432.out
 have hms16_1 := NB434_433.out
 refine skip_ (w1 := ?_) (by rfl) rfl ?_ ?_
 rotate_left
 ·go_simp
  rfl
 refine hK.out _ _ ⟨(cF_ NB432_434.out (hHeld.1)),(cF_ NB432_434.out (hHeld.2.1)),(cF_ NB432_434.out (hHeld.2.2.1)),(cF_ NB433_434.out (hHeld.2.2.2.1)),(cF_ NB433_434.out (hHeld.2.2.2.2.1)),(cF_ NB433_434.out (hHeld.2.2.2.2.2))⟩ (fun hHeld=>?_)
 clear hK K
 refine done_ (done_of HT_.out (by kernel_rfl)) ?_
 try go_wp2
 refine bodyPost_ret (results_cell_row rfl _ _ gb434 31 #[I L t435,I L t436,I L t437] (0,0) _ rfl (by exact pP_ BK434.out) Try.underlying31 rfl (by kernel_rfl)) rfl ?_
 exact ⟨er_, pB_ HB.out⟩

end Go.Proofs.Ytmloggnobgikdab.PFnExactTreeShed
