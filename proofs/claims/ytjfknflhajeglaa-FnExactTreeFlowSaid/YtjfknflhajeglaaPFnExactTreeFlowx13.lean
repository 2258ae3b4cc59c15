-- by a program of this session's, over the kit's words
import Derived.Test.YtjfknflhajeglaaPZFnExactTreeFlow
import Derived.Test.YtjfknflhajeglaaPFnExactTreeFlowx0
import Derived.Test.YtjfknflhajeglaaPFnExactTreeFlowx12
namespace Go.Proofs.Ytjfknflhajeglaa.PFnExactTreeFlow
open Go.RowKit Go.Proofs.YtjfknflhajeglaaW.PrintWords Go.Proofs.YtjfknflhajeglaaW.PrintLast Go.Proofs.YtjfknflhajeglaaW.PrintMore Go.Proofs.YtjfknflhajeglaaV Go.Proofs.Ytjfknflhajeglaa.ZFnExactTreeFlow
open Go.Value renaming int → I, slice → Y
open Go.IntKind renaming i64 → L
open Aside0 renaming mk → D
open Option renaming bind_eq_some_iff → bs_
attribute [local go_sem] max2_int min2_int max_two min_two max_three min_three max_four min_four   -- for this text's walks alone
set_option linter.unusedVariables false
set_option linter.unusedSimpArgs false

/-! ### slices_Clone_impl_Kid_impl_Kid: function 61 -/
def slices_Clone_impl_Kid_impl_Kid.f (l0 : List (S67)) : Option ((List (S67))) := (some (([] : List (S67)) : List (S67))).bind fun y375 => (if y375.length + l0.length < 2932031007402 then (some (y375 ++ l0)) else (none))
set_option maxHeartbeats 8000000 in
set_option maxRecDepth 100000 in
theorem slices_Clone_impl_Kid_impl_Kid.calls (A0 : Option Addr) (c0 : Nat) (l0 r : List (S67)) (w : World) (hr0 : Kd.C k67 w A0 l0.length l0) (hc0 : l0.length ≤ c0) (h : slices_Clone_impl_Kid_impl_Kid.f l0 = some r) :
  Calls Try.prog 61 #[Y A0 l0.length c0] w fun e w' => ∃ v0_ : Value, e = .returned (v0_) ∧ Kd.R k67 67 w' w.heap.size (fun _ => True) v0_ r ∧ Below w.heap.size w w' := by
 have HR0 := D hr0
 have HC0 := D hc0
 clear hr0 hc0
 have HB := D (Below.refl w.heap.size w)
 have H : ((some (([] : List (S67)) : List (S67))).bind fun y375 => (if y375.length + l0.length < 2932031007402 then (some (y375 ++ l0)) else (none))) = some r := h
 clear h
 by_cases hA_ : A0 = none
 ·subst hA_
  have hl_ := List.length_eq_zero_iff.1 (nil_len HR0.out); subst hl_
  have H : some ([] : List (S67)) = some r := by simpa using H
  obtain rfl := Option.some.inj H; go_enter Try.func61, Try.ntmps61
  go_wp2_with (first|((with_reducible refine gate_dst (N:=4) rfl ?_);refine isnil_event ?hg (N:=4) ?hd (t:=32) (u:=32) (e:=67) (x:=.tmp 3) (y:=.const (Y none 0 0)) ?ho (A:=none) (n:=0) (c:=c0) (m:=0) (q:=0) ?hx ?hy Try.underlying32 (b:=true) rfl ?_;(case hd=>rfl);(case hg=>rfl);(case ho=>rfl);(case hx=>rfl);(case hy=>rfl)))
  go_ret;exact ⟨_,er_,by first|exact Kd.R_nil _ _ _ _ _|exact Kd.N_nil _ _ _ _ _|exact Kd.V_nil _ _ _ _ _|exact Kd.Q_nil _ _ _ _ _|exact Kd.S_nil _ _ _ _ _,pB_ HB.out⟩
 ·have hA1_ := none_no hA_
  obtain ⟨y375, hy375⟩ : ∃ y_ : List (S67), y_ = (([] : List (S67))) := ⟨_, rfl⟩
  replace H:(if y375.length + l0.length < 2932031007402 then (some (y375 ++ l0)) else (none))=some r:=by first|(rw [hy375];with_reducible exact H)|(have H2_:=(Option.bind_some _ _).symm.trans H;rw [hy375];with_reducible exact H2_)|(have H2_:=(Option.bind_some _ _).symm.trans H;with_reducible exact H2_)|with_reducible exact H|(rw [hy375];exact H)|exact H
  have Ny375 := D hy375; clear hy375
  by_cases c2 : y375.length + l0.length < 2932031007402
  ·rw [if_pos c2] at H
   have LMc2 := D c2; clear c2; obtain ⟨y378, hy378⟩ : ∃ y_ : List (S67), y_ = (y375 ++ l0) := ⟨_, rfl⟩
   replace H:(some y378)=some r:=by first|(rw [hy378];with_reducible exact H)|(have H2_:=(Option.bind_some _ _).symm.trans H;rw [hy378];with_reducible exact H2_)|(have H2_:=(Option.bind_some _ _).symm.trans H;with_reducible exact H2_)|with_reducible exact H|(rw [hy378];exact H)|exact H
   have Ny378 := D hy378; clear hy378; obtain rfl := Option.some.inj H; go_enter Try.func61, Try.ntmps61
   go_wp2_with (first|((with_reducible refine gate_dst (N:=4) rfl ?_);refine isnil_event ?hg (N:=4) ?hd (t:=32) (u:=32) (e:=67) (x:=.tmp 3) (y:=.const (Y none 0 0)) ?ho (A:=A0) (n:=l0.length) (c:=c0) (m:=0) (q:=0) ?hx ?hy Try.underlying32 (b:=false) hA1_ ?_;(case hd=>rfl);(case hg=>rfl);(case ho=>rfl);(case hx=>rfl);(case hy=>rfl))|((with_reducible refine gate_dst (N:=5) rfl ?_);refine Kd.R_lit k67 _ 67 ?hg (N:=5) ?hd (xs:=([]:List (S67))) (inner:=[]) (ok:=fun _=>True) (okp:=fun _=>True) ?hr ?hp (fun _ hk=>hk) trivial (Below.refl _ _) (Nat.le_refl _) (by simp) ?_;(case hd=>rfl);(case hg=>rfl);(case hr=>first|(go_simp;done)|(go_simp;rfl));(case hp=>exact (Reps.none _ _));intro v376 w3 ho4 hb hg_ hnew_;clear hg_ hnew_;(first|rw [← Ny375.out] at ho4|(simp only [Int.reduceToNat] at ho4;rw [← Ny375.out] at ho4));have n_:=an_ (Kd.R_lower ho4 (below_size (pB_ HB.out)))<|D (below_step (pB_ HB.out) hb);clear HB;obtain ⟨HO377,HB⟩:=n_;clear hb ho4)|((with_reducible refine gate_builtin (b:=.append) (xs:=#[.tmp 5,.tmp 6]) rfl ?_);at_builtin;refine Kd.R_append_rows k67 (w0:=w) w.heap.size rfl (.tmp 5) (.tmp 6) 32 67 (.agg #[(I L 0),(I L 0),(.bool false),(I L 0),(I L 0),(I L 0)]) 48 rfl Try.underlying32 info67 rfl (by decide) (by omega) v376 y375 l0 _ _ _ (fun _=>True) (fun _=>False) rfl rfl ?aO ?aR (fun _ _ h=>h) (fun _ h=>h.elim) ?aF ?aB ?aS ?aL ?_;(case aR=>exact pC_ (Kd.C_below HR0.out HB.out));(case aB=>exact (pB_ HB.out));(case aF=>exact (fun _ _=>trivial));(case aO=>exact (pR_ HO377.out));(case aS=>exact (below_size (pB_ HB.out)));(case aL=>have:=LMc2.out;omega);intro v379 w5 ho hb hg hat;rw [← Ny378.out] at ho;have n_:=an_ (hb)<|D (ho);clear HB HO377;obtain ⟨HB,HO380⟩:=n_;clear ho hb hg hat))
   go_ret;exact ⟨_,er_,by (with_reducible repeat (first|apply Kd.R_alloc|apply Kd.R_drewN|apply Kd.R_drew));exact HO380.out,pB_ HB.out⟩
  ·rw [if_neg c2] at H
   exact absurd H (by simp)

/-! ### impl_copyFair: function 44 -/
def impl_copyFair.f (a0_0 a0_1 a0_2 a0_3 : Int) (l0_4 : List (S67)) : Option (Int × Int × Int × Int × (List (S67))) := (slices_Clone_impl_Kid_impl_Kid.f l0_4).bind fun t383 => (some (a0_0, a0_1, a0_2, a0_3, t383))
def impl_copyFair.T1 : Bool × List (List Nat × List Nat) := (true, [([], []), ([0], [0]), ([], []), ([2], [2]), ([], []), ([4], [4]), ([5], [5]), ([1, 3, 6], [1, 3, 6]), ([7, 6, 0, 1, 2, 3, 4, 5, 6, 7], [7])])
def impl_copyFair.B1 : List Nat := [0, 1, 0, 4, 0, 16, 48, 127, 255]
theorem impl_copyFair.tab1 : rtab .any (opsOf Try.f44 1) = impl_copyFair.T1 := by kernel_rfl
theorem impl_copyFair.bits1 : waitsOk impl_copyFair.T1.2 impl_copyFair.B1 = true := by kernel_rfl
set_option maxHeartbeats 8000000 in
set_option maxRecDepth 100000 in
theorem impl_copyFair.calls (a0_0 a0_1 a0_2 a0_3 : Int) (A0_4 : Option Addr) (c0_4 : Nat) (l0_4 : List (S67)) (r1 r2 r3 r4 : Int) (r5 : List (S67)) (w : World) (hr0_4 : Kd.C k67 w A0_4 l0_4.length l0_4) (hc0_4 : l0_4.length ≤ c0_4) (h : impl_copyFair.f a0_0 a0_1 a0_2 a0_3 l0_4 = some (r1, r2, r3, r4, r5)) :
  Calls Try.prog 44 #[.agg #[I L a0_0,I L a0_1,I L a0_2,I L a0_3,Y A0_4 l0_4.length c0_4]] w fun e w'=>∃ v4_:Value,e=.returned (.agg #[I L r1,I L r2,I L r3,I L r4,v4_])∧Kd.R k67 67 w' w.heap.size (fun _=>True) v4_ r5∧Below w.heap.size w w':=by
 have hu34 := Try.underlying34
 have hu31 := Try.underlying31
 have HR0_4 := D hr0_4
 have HC0_4 := D hc0_4
 clear hr0_4 hc0_4
 have HB := D (Below.refl w.heap.size w)
 have H : ((slices_Clone_impl_Kid_impl_Kid.f l0_4).bind fun t383 => (some (a0_0, a0_1, a0_2, a0_3, t383))) = some (r1, r2, r3, r4, r5) := h
 clear h
 obtain ⟨t383, A20, H⟩ := bs_.mp H
 (try dsimp only at H)
 have A2 := D A20
 clear A20
 simp only [Option.some.injEq, Prod.mk.injEq] at H
 obtain ⟨rfl, rfl, rfl, rfl, rfl⟩ := H
 go_enter Try.func44, Try.ntmps44
 try go_wp2_with (first|((with_reducible refine gate_dst (N:=1) rfl ?_);refine bx_ (N:=1) (cs:=#[I L a0_0,I L a0_1,I L a0_2,I L a0_3,Y A0_4 l0_4.length c0_4]) (t:=34) ?_;intro gb381 hg w3 hbox hb;have n_:=an_ (below_step (pB_ HB.out) hb)<|an_ (hbox)<|an_ (bg_ hg (pB_ HB.out):w.heap.size≤gb381)<|D (bg_ hg (pB_ HB.out):w.heap.size≤gb381);clear HB;obtain ⟨HB,BK381,GW381,GE381⟩:=n_;clear hb hbox hg)|((with_reducible refine gate_dst (N:=2) rfl ?_);refine bx_ (N:=2) (cs:=#[I L 0,I L 0,I L 0,I L 0,Y none 0 0]) (t:=34) ?_;intro gb382 hg w4 hbox hb;have n_:=an_ (blk_below (pk_ BK381.out) hb)<|an_ (below_step (pB_ HB.out) hb)<|an_ (hbox)<|an_ (bg_ hg (pB_ HB.out):w.heap.size≤gb382)<|an_ (bg_ hg (pB_ HB.out):w.heap.size≤gb382)<|an_ (nl_ hg (pk_ BK381.out):gb381≠gb382)<|D (by rw [hg];exact Nat.ne_of_gt (blk_lt (pk_ BK381.out)):gb382≠gb381);clear BK381 HB;obtain ⟨BK381,HB,BK382,GW382,GE382,NB381_382,NB382_381⟩:=n_;clear hb hbox hg))
 have n_ := an_ (blk_drew BK381.out) <| an_ (blk_drew BK382.out) <| D (below_drew1 HB.out)
 clear BK381 BK382 HB
 obtain ⟨BK381, BK382, HB⟩ := n_
 refine start_ (n:=9) (S:=fun w'=>w'.cell? ⟨gb381,0,none⟩=some (I L a0_0)∧w'.cell? ⟨gb381,1,none⟩=some (I L a0_1)∧w'.cell? ⟨gb381,2,none⟩=some (I L a0_2)∧w'.cell? ⟨gb381,3,none⟩=some (I L a0_3)∧w'.cell? ⟨gb381,4,none⟩=some (Y A0_4 l0_4.length c0_4)) (ds:=[]) (bz 9 0) (by kernel_rfl) rfl (by kernel_rfl) (be5_ BK381.out) (fun hHeld=>?_);refine with_tabW impl_copyFair.tab1 impl_copyFair.bits1 (fun HT_ HW_=>?_)
 generalize w4.drew = w5 at BK381 BK382 HB hHeld ⊢
 refine pb_ 0 ?_
 refine pb_ 2 ?_
 refine pb_ 4 ?_
 refine tb_ 1 rfl rfl hHeld Z46 ?_
 refine tb_ 3 rfl rfl hHeld Z46 ?_
 refine tb_ 5 rfl rfl hHeld Z46 ?_
 refine oa_ 6 9 9 127 HT_ (fun K hK => ?_)
 refine goes_ Try.func61 (by kernel_rfl) rfl #[Y A0_4 l0_4.length c0_4] (by rfl) rfl rfl Z17 ?_
 with_reducible refine (slices_Clone_impl_Kid_impl_Kid.calls _ _ l0_4 t383 _ ?side1 ?side2 A2.out).mono ?_
 (case side1 => exact pC_ (Kd.C_below HR0_4.out HB.out))
 (case side2 => exact HC0_4.out)
 rintro e w6 ⟨v384, rfl, ho0, hb⟩
 refine ⟨_, rfl, ?_⟩
 have n_ := an_ (Kd.R_lower ho0 (below_size (pB_ HB.out))) <| an_ (blk_below (pk_ BK381.out) hb) <| an_ (blk_below (pk_ BK382.out) hb) <| D (below_step (pB_ HB.out) hb)
 clear BK381 BK382 HB
 obtain ⟨HO385, BK381, BK382, HB⟩ := n_
 (try clear hb)
 (try clear hb2)
 (try clear hk)
 (try clear hi)
 (try clear ho0)
 obtain ⟨Ao7, co7, eo7⟩ := Kd.R_slice HO385.out
 (first | subst eo7 | obtain ⟨rfl, rfl⟩ := sl_inj eo7)
 refine hK.out _ _ (be5_ BK381.out) (fun hHeld=>?_)
 clear hK K
 refine nx_ (N := some 9) ?_
 refine pb_ 7 ?_
 refine one_ (i := 8) (N := none) (bz 9 511) rfl rfl (one_of HT_.out (by kernel_rfl)) (by decide) (fun K hK => ?_)
 have hs8 : w6.cell? ⟨gb382, 0, none⟩ = some (I L 0) := (bc_ BK382.out 0)
 have hfs8 := blk_frozen BK382.out 0
 have hns8_0 := NB381_382.out
 have hms8_0 := NB382_381.out
 have hs9 : w6.cell? ⟨gb382, 1, none⟩ = some (I L 0) := (bc_ BK382.out 1)
 have hfs9 := blk_frozen BK382.out 1
 have hns9_0 := NB381_382.out
 have hms9_0 := NB382_381.out
 have hs10 : w6.cell? ⟨gb382, 2, none⟩ = some (I L 0) := (bc_ BK382.out 2)
 have hfs10 := blk_frozen BK382.out 2
 have hns10_0 := NB381_382.out
 have hms10_0 := NB382_381.out
 have hs11 : w6.cell? ⟨gb382, 3, none⟩ = some (I L 0) := (bc_ BK382.out 3)
 have hfs11 := blk_frozen BK382.out 3
 have hns11_0 := NB381_382.out
 have hms11_0 := NB382_381.out
 have hs12 : w6.cell? ⟨gb382, 4, none⟩ = some (Y none 0 0) := (bc_ BK382.out 4)
 have hfs12 := blk_frozen BK382.out 4
 have hns12_0 := NB381_382.out
 have hms12_0 := NB382_381.out
 refine skip_ (w1 := ?_) (by rfl) rfl ?_ ?_
 rotate_left
 ·go_simp
  rfl
 refine hK.out _ _ ⟨(cF_ NB381_382.out (hHeld.1)),(cF_ NB381_382.out (hHeld.2.1)),(cF_ NB381_382.out (hHeld.2.2.1)),(cF_ NB381_382.out (hHeld.2.2.2.1)),(cF_ NB381_382.out (hHeld.2.2.2.2))⟩ (fun hHeld=>?_)
 clear hK K
 refine done_ (done_of HT_.out (by kernel_rfl)) ?_
 try go_wp2
 refine bodyPost_ret (results_cell_row rfl _ _ gb382 34 #[I L a0_0,I L a0_1,I L a0_2,I L a0_3,Y Ao7 t383.length co7] (0,0) _ rfl (by exact pP_ BK382.out) Try.underlying34 rfl (by kernel_rfl)) rfl ?_
 exact ⟨_,er_,by (with_reducible repeat (first|apply Kd.R_alloc|apply Kd.R_drewN|apply Kd.R_drew));exact Kd.R_mono (fr_ (fr_ (fr_ (fr_ (fr_ (Kd.R_types HO385.out BK382.out (by decide)) 0 (I L a0_0)) 1 (I L a0_1)) 2 (I L a0_2)) 3 (I L a0_3)) 4 (Y Ao7 t383.length co7)) (fun _ hk=>trivial),pB_ HB.out⟩

/-! ### impl_copyTree: function 40 -/
def impl_copyTree.l0 : Nat → List (S50) → Int → Int → Int → Int → Int → Int → List (S67) → List (S50) → Option (Int × Int × Int × Int × (List (S67)) × (List (S50)))
 | 0, _, _, _, _, _, _, _, _, _ => none
 | k + 1,x11,x12,x13,x396000,x396001,x396002,x396003,x396004,x396005=>if x13 < x12 then (if 0≤x13 then (if x13 < (x11.length:Int) then ((impl_copyFair.f ((rd_T50 x11 x13).f1.f0) ((rd_T50 x11 x13).f1.f1.f0) ((rd_T50 x11 x13).f1.f1.f1) ((rd_T50 x11 x13).f1.f1.f2) ((rd_T50 x11 x13).f1.f2)).bind fun bt398=>(if x396005.length < 2199023255552 then (impl_copyTree.l0 k x11 x12 (wrap64 (x13 + 1)) x396000 x396001 x396002 x396003 x396004 (x396005 ++ [(⟨(rd_T50 x11 x13).f0,(⟨bt398.1,(⟨bt398.2.1,bt398.2.2.1,bt398.2.2.2.1⟩:S31),bt398.2.2.2.2⟩:S34)⟩:S50)])) else (none))) else (none)) else (none)) else (some (x396000,x396001,x396002,x396003,x396004,x396005))
def impl_copyTree.f (k : Nat) (a0_0 a0_1 a0_2 a0_3 : Int) (l0_4 : List (S67)) (l0_5 : List (S50)) : Option (Int × Int × Int × Int × (List (S67)) × (List (S50))) := (impl_copyFair.f a0_0 a0_1 a0_2 a0_3 l0_4).bind fun bt388 => (impl_copyTree.l0 k l0_5 (l0_5.length : Int) 0 bt388.1 bt388.2.1 bt388.2.2.1 bt388.2.2.2.1 bt388.2.2.2.2 ([] : List (S50)))
def impl_copyTree.T5 : Bool × List (List Nat × List Nat) := (true, [([], []), ([0], [0]), ([], []), ([2], [2]), ([], []), ([4], [4]), ([5], [5]), ([3, 6], [3, 6]), ([7], [7]), ([1, 8, 6], [1, 8]), ([0, 1, 2, 3, 4, 5, 6, 7, 8, 9], []), ([10, 9, 9, 0, 1, 2, 3, 4, 5, 6, 7, 8, 9], [9, 10])])
def impl_copyTree.B5 : List Nat := [0, 1, 0, 4, 0, 16, 48, 124, 252, 511, 1023, 2047]
theorem impl_copyTree.tab5 : rtab .any (opsOf Try.f40 5) = impl_copyTree.T5 := by kernel_rfl
theorem impl_copyTree.bits5 : waitsOk impl_copyTree.T5.2 impl_copyTree.B5 = true := by kernel_rfl
set_option maxHeartbeats 8000000 in
set_option maxRecDepth 100000 in
theorem impl_copyTree.calls (k : Nat) (a0_0 a0_1 a0_2 a0_3 : Int) (A0_4 : Option Addr) (c0_4 : Nat) (l0_4 : List (S67)) (A0_5 : Option Addr) (c0_5 : Nat) (l0_5 : List (S50)) (r1 r2 r3 r4 : Int) (r5 : List (S67)) (r6 : List (S50)) (w : World) (hr0_4 : Kd.C k67 w A0_4 l0_4.length l0_4) (hc0_4 : l0_4.length ≤ c0_4) (hr0_5 : Kd.C k50 w A0_5 l0_5.length l0_5) (hc0_5 : l0_5.length ≤ c0_5) (h : impl_copyTree.f k a0_0 a0_1 a0_2 a0_3 l0_4 l0_5 = some (r1, r2, r3, r4, r5, r6)) :
  Calls Try.prog 40 #[.agg #[I L a0_0,I L a0_1,I L a0_2,I L a0_3,Y A0_4 l0_4.length c0_4,Y A0_5 l0_5.length c0_5]] w fun e w'=>∃ v4_ v5_:Value,e=.returned (.agg #[I L r1,I L r2,I L r3,I L r4,v4_,v5_])∧Kd.R k67 67 w' w.heap.size (fun _=>True) v4_ r5∧Kd.S k50 50 w' w.heap.size (fun k_=>some k_≠(v4_:Value).ownBlock) v5_ r6∧Below w.heap.size w w':=by
 have hu37 := Try.underlying37
 have hu34 := Try.underlying34
 have hu50 := Try.underlying50
 have HR0_4 := D hr0_4
 have HC0_4 := D hc0_4
 clear hr0_4 hc0_4
 have HR0_5 := D hr0_5
 have HC0_5 := D hc0_5
 clear hr0_5 hc0_5
 have HB := D (Below.refl w.heap.size w)
 have H:((impl_copyFair.f a0_0 a0_1 a0_2 a0_3 l0_4).bind fun bt388=>(impl_copyTree.l0 k l0_5 (l0_5.length:Int) 0 bt388.1 bt388.2.1 bt388.2.2.1 bt388.2.2.2.1 bt388.2.2.2.2 ([]:List (S50))))=some (r1,r2,r3,r4,r5,r6):=h
 clear h
 obtain ⟨⟨Ub, Jc, Kc, Xc, Mb⟩, A20, H⟩ := bs_.mp H
 (try dsimp only at H)
 have A2 := D A20
 clear A20
 have H' := D H
 clear H
 go_enter Try.func40, Try.ntmps40
 go_wp2_with (first|((with_reducible refine gate_dst (N:=1) rfl ?_);refine bx_ (N:=1) (cs:=#[I L a0_0,I L a0_1,I L a0_2,I L a0_3,Y A0_4 l0_4.length c0_4,Y A0_5 l0_5.length c0_5]) (t:=37) ?_;intro Ob hg w3 hbox hb;have n_:=an_ (below_step (pB_ HB.out) hb)<|an_ (hbox)<|an_ (bg_ hg (pB_ HB.out):w.heap.size≤Ob)<|D (bg_ hg (pB_ HB.out):w.heap.size≤Ob);clear HB;obtain ⟨HB,Oa,Jp,Kp⟩:=n_;clear hb hbox hg)|((with_reducible refine gate_dst (N:=2) rfl ?_);refine bx_ (N:=2) (cs:=#[I L 0,I L 0,I L 0,I L 0,Y none 0 0,Y none 0 0]) (t:=37) ?_;intro Mc hg w4 hbox hb;have n_:=an_ (blk_below (pk_ Oa.out) hb)<|an_ (below_step (pB_ HB.out) hb)<|an_ (hbox)<|an_ (bg_ hg (pB_ HB.out):w.heap.size≤Mc)<|an_ (bg_ hg (pB_ HB.out):w.heap.size≤Mc)<|an_ (nl_ hg (pk_ Oa.out):Ob≠Mc)<|D (by rw [hg];exact Nat.ne_of_gt (blk_lt (pk_ Oa.out)):Mc≠Ob);clear Oa HB;obtain ⟨Oa,HB,Xa,Mp,Op,Og,Ug⟩:=n_;clear hb hbox hg;(try have:=Og.out);(try have:=Ug.out);have Oh:=cells6 Oa.out)|((with_reducible refine gate_callee (f:=44) rfl ?_);refine goesL_ (some 8) rfl rfl Try.func44 (by kernel_rfl) rfl #[.agg #[I L a0_0,I L a0_1,I L a0_2,I L a0_3,Y A0_4 l0_4.length c0_4]] rfl Z17 ?_;(with_reducible refine (impl_copyFair.calls a0_0 a0_1 a0_2 a0_3 _ _ l0_4 Ub Jc Kc Xc Mb _ ?side1 ?side2 A2.out).mono ?_);(case side1=>exact pC_ (Kd.C_below HR0_4.out HB.out));(case side2=>exact HC0_4.out);rintro e w7 ⟨Up,rfl,ho0,hb⟩;refine ⟨_,rfl,?_⟩;have n_:=an_ (Kd.R_lower ho0 (below_size (pB_ HB.out)))<|an_ (blk_below (pk_ Oa.out) hb)<|an_ (blk_below (pk_ Xa.out) hb)<|D (below_step (pB_ HB.out) hb);clear Oa Xa HB;obtain ⟨Oe,Oa,Xa,HB⟩:=n_;(try clear hb);(try clear ho0);obtain ⟨Oc,Uc,eo8⟩:=Kd.R_slice Oe.out;subst eo8)|((with_reducible refine gate_dst (N:=3) rfl ?_);refine bx_ (N:=3) (cs:=#[I L 0,I L 0,I L 0,I L 0,Y none 0 0,Y none 0 0]) (t:=37) ?_;intro Jb hg w9 hbox hb;have n_:=an_ (Kd.R_below (pR_ Oe.out) hb)<|an_ (blk_below (pk_ Oa.out) hb)<|an_ (blk_below (pk_ Xa.out) hb)<|an_ (below_step (pB_ HB.out) hb)<|an_ (hbox)<|an_ (bg_ hg (pB_ HB.out):w.heap.size≤Jb)<|an_ (bg_ hg (pB_ HB.out):w.heap.size≤Jb)<|an_ (nl_ hg (pk_ Oa.out):Ob≠Jb)<|an_ (ng_ hg (pk_ Oa.out):Jb≠Ob)<|an_ (nl_ hg (pk_ Xa.out):Mc≠Jb)<|D (by rw [hg];exact Nat.ne_of_gt (blk_lt (pk_ Xa.out)):Jb≠Mc);clear Oe Oa Xa HB;obtain ⟨Oe,Oa,Xa,HB,Ma,Xp,Jq,Md,Of,Od,Uf⟩:=n_;clear hb hbox hg;(try have:=Of.out);(try have:=Md.out);(try have:=Uf.out);(try have:=Od.out);have Oj:=cells6 Ma.out;have Om:=cells6 Oa.out))
 go_loopg [13] k (fun kq v13 w'=>∃ (Ja:Int) (Ud:List (S50)) (u396005:Value),v13=I L Ja∧Aside0 (impl_copyTree.l0 kq l0_5 (l0_5.length:Int) Ja Ub Jc Kc Xc Mb Ud=some (r1,r2,r3,r4,r5,r6))∧Aside0 (kq≤k)∧Aside0 (Kd.R k67 67 w' w.heap.size (fun _=>True) (Y Oc Mb.length Uc) Mb)∧Aside0 (Kd.S k50 50 w' w.heap.size (fun k_=>some k_≠((Y Oc Mb.length Uc):Value).ownBlock) u396005 Ud)∧Aside0 (w'.heap[Ob]?=some (.cells #[I L a0_0,I L a0_1,I L a0_2,I L a0_3,(Y A0_4 l0_4.length c0_4),(Y A0_5 l0_5.length c0_5)] 37 (0,0)))∧Aside0 (w'.heap[Mc]?=some (.cells #[I L 0,I L 0,I L 0,I L 0,(Y none 0 0),(Y none 0 0)] 37 (0,0)))∧Aside0 (w'.heap[Jb]?=some (.cells #[I L Ub,I L Jc,I L Kc,I L Xc,(Y Oc Mb.length Uc),u396005] 37 (0,0)))∧Aside0 (Below w.heap.size w w'))
 case atStart=>exact ⟨(0),(([]:List (S50))),(Y none 0 0),Z49,H',⟨Nat.le_refl _⟩,⟨rM_ (Kd.R_types Oe.out Ma.out (by decide)) (fun _ hk=>trivial)⟩,⟨by first|exact Kd.S_nil _ _ _ _ _|exact Kd.N_nil _ _ _ _ _|exact Kd.V_nil _ _ _ _ _|exact Kd.Q_nil _ _ _ _ _|exact Kd.R_nil _ _ _ _ _⟩,⟨pP_ Oa.out⟩,⟨pP_ Xa.out⟩,⟨pP_ Ma.out⟩,⟨pB_ HB.out⟩⟩
 case round =>
  clear H'
  (try clear c1);(try clear p2);(try clear c4);(try clear c5);(try clear c10);(try clear c11);(try clear Oj);(try clear Om);(try clear Oh)
  obtain ⟨Ja, Ud, u396005, rfl, HA, HK1, Xb, Kb, Oa, Xa, Ma, HB⟩ := hrel
  cases gk with
  | zero => exact absurd HA.out (by simp [impl_copyTree.l0])
  | succ k1 =>
   have H := HA.out; clear HA; simp only [impl_copyTree.l0] at H
   by_cases c14 : Ja < (l0_5.length : Int)
   ·rw [if_pos c14] at H
    have c14b0 : decide (Ja < (l0_5.length : Int)) = true := decide_eq_true c14; clear c14
    by_cases c15 : 0 ≤ Ja
    ·rw [if_pos c15] at H
     have c15b0 : decide (0 ≤ Ja) = true := decide_eq_true c15; clear c15
     by_cases c16 : Ja < (l0_5.length : Int)
     ·rw [if_pos c16] at H
      have c16b0:decide (Ja < (l0_5.length:Int))=true:=decide_eq_true c16;clear c16;obtain ⟨⟨Ue,Xe,Jf,Kf,Me⟩,A170,H⟩:=bs_.mp H;(try dsimp only at H);have A17:=D A170;clear A170
      by_cases c18 : Ud.length < 2199023255552
      ·rw [if_pos c18] at H
       have LMc18 := D c18; clear c18; obtain ⟨y405, hy405⟩ : ∃ y_ : List (S50), y_ = (Ud ++ [(⟨(rd_T50 l0_5 Ja).f0, (⟨Ue, (⟨Xe, Jf, Kf⟩ : S31), Me⟩ : S34)⟩ : S50)]) := ⟨_, rfl⟩
       replace H:(impl_copyTree.l0 k1 l0_5 (l0_5.length:Int) (wrap64 (Ja + 1)) Ub Jc Kc Xc Mb y405)=some (r1,r2,r3,r4,r5,r6):=by first|(rw [hy405];with_reducible exact H)|(have H2_:=(Option.bind_some _ _).symm.trans H;rw [hy405];with_reducible exact H2_)|(have H2_:=(Option.bind_some _ _).symm.trans H;with_reducible exact H2_)|with_reducible exact H|(rw [hy405];exact H)|exact H
       have Ny405:=D hy405;clear hy405;have H':=D H;clear H;have p396:0≤(Ja:Int):=od_ Z48;have q396:Ja < (l0_5.length:Int):=od_ Z48;obtain ⟨ad396,A396_5,c396_5,e396,hx396_0,hx396_1,hx396_2,hx396_3,hx396_4,hx396_5,hl396_5,hi396_5⟩:=at_T50 HR0_5.out Ja p396 q396;cases e396;replace hx396_0:=rc_ HB.out hx396_0;replace hx396_1:=rc_ HB.out hx396_1;replace hx396_2:=rc_ HB.out hx396_2;replace hx396_3:=rc_ HB.out hx396_3;replace hx396_4:=rc_ HB.out hx396_4;replace hx396_5:=rc_ HB.out hx396_5;have HR396_5:=D hi396_5;have HC396_5:=D hl396_5;clear hi396_5 hl396_5;replace p396:=eq_true p396;replace q396:=eq_true q396
       try go_wp2_with (first|((with_reducible refine gate_dst (N:=5) rfl ?_);refine bx_ (N:=5) (cs:=#[I L 0,I L 0,I L 0,I L 0,I L 0,Y none 0 0]) (t:=50) ?_;intro Ka hg w19 hbox hb;have n_:=an_ (Kd.R_below (pR_ Xb.out) hb)<|an_ (Kd.S_below (Kd.S_elderB (pS_ Kb.out) Ka (Nat.le_of_eq hg.symm)) hb)<|an_ (blk_below (pk_ Oa.out) hb)<|an_ (blk_below (pk_ Xa.out) hb)<|an_ (blk_below (pk_ Ma.out) hb)<|an_ (below_step (pB_ HB.out) hb)<|an_ (hbox)<|an_ (bg_ hg (pB_ HB.out):w.heap.size≤Ka)<|an_ (bg_ hg (pB_ HB.out):w.heap.size≤Ka)<|an_ (nl_ hg (pk_ Oa.out):Ob≠Ka)<|an_ (ng_ hg (pk_ Oa.out):Ka≠Ob)<|an_ (nl_ hg (pk_ Xa.out):Mc≠Ka)<|an_ (ng_ hg (pk_ Xa.out):Ka≠Mc)<|an_ (nl_ hg (pk_ Ma.out):Jb≠Ka)<|D (by rw [hg];exact Nat.ne_of_gt (blk_lt (pk_ Ma.out)):Ka≠Jb);clear Xb Kb Oa Xa Ma HB;obtain ⟨Xb,Kb,Oa,Xa,Ma,HB,Ua,Kq,Mq,Je,Oo,Ke,Uo,Xd,Xg⟩:=n_;clear hb hbox hg;(try have:=Oo.out);(try have:=Je.out);(try have:=Uo.out);(try have:=Ke.out);(try have:=Xg.out);(try have:=Xd.out);have Oq:=cells6 Ua.out))
       have n0_:Aside0 (Kd.R k67 67 ((((((w19.setCell ⟨Ka,0,none⟩ (I L ((rd_T50 l0_5 Ja).f0))).setCell ⟨Ka,1,none⟩ (I L ((rd_T50 l0_5 Ja).f1.f0))).setCell ⟨Ka,2,none⟩ (I L ((rd_T50 l0_5 Ja).f1.f1.f0))).setCell ⟨Ka,3,none⟩ (I L ((rd_T50 l0_5 Ja).f1.f1.f1))).setCell ⟨Ka,4,none⟩ (I L ((rd_T50 l0_5 Ja).f1.f1.f2))).setCell ⟨Ka,5,none⟩ (Y A396_5 ((rd_T50 l0_5 Ja).f1.f2).length c396_5)) w.heap.size (fun _=>True) (Y Oc Mb.length Uc) Mb):=⟨rM_ (Kd.R_types Xb.out Ua.out (by decide)) (fun _ hk=>trivial)⟩;have n1_:Aside0 (Kd.S k50 50 ((((((w19.setCell ⟨Ka,0,none⟩ (I L ((rd_T50 l0_5 Ja).f0))).setCell ⟨Ka,1,none⟩ (I L ((rd_T50 l0_5 Ja).f1.f0))).setCell ⟨Ka,2,none⟩ (I L ((rd_T50 l0_5 Ja).f1.f1.f0))).setCell ⟨Ka,3,none⟩ (I L ((rd_T50 l0_5 Ja).f1.f1.f1))).setCell ⟨Ka,4,none⟩ (I L ((rd_T50 l0_5 Ja).f1.f1.f2))).setCell ⟨Ka,5,none⟩ (Y A396_5 ((rd_T50 l0_5 Ja).f1.f2).length c396_5)) w.heap.size (fun k_=>some k_≠(Y Oc Mb.length Uc:Value).ownBlock∧k_≠Ka) u396005 Ud):=⟨sM_ (Kd.S_mono Kb.out (fun k_ hk=>(⟨hk,hk.2⟩:_∧k_≠Ka))) (fun _ hk=>⟨hk.1.1,hk.1.2⟩)⟩;have n2_:Aside0 (((((((w19.setCell ⟨Ka,0,none⟩ (I L ((rd_T50 l0_5 Ja).f0))).setCell ⟨Ka,1,none⟩ (I L ((rd_T50 l0_5 Ja).f1.f0))).setCell ⟨Ka,2,none⟩ (I L ((rd_T50 l0_5 Ja).f1.f1.f0))).setCell ⟨Ka,3,none⟩ (I L ((rd_T50 l0_5 Ja).f1.f1.f1))).setCell ⟨Ka,4,none⟩ (I L ((rd_T50 l0_5 Ja).f1.f1.f2))).setCell ⟨Ka,5,none⟩ (Y A396_5 ((rd_T50 l0_5 Ja).f1.f2).length c396_5)).heap[Ob]?=some (.cells #[I L a0_0,I L a0_1,I L a0_2,I L a0_3,Y A0_4 l0_4.length c0_4,Y (some ad396) l0_5.length c0_5] 37 (0,0))):=⟨pP_ Oa.out⟩;have n3_:Aside0 (((((((w19.setCell ⟨Ka,0,none⟩ (I L ((rd_T50 l0_5 Ja).f0))).setCell ⟨Ka,1,none⟩ (I L ((rd_T50 l0_5 Ja).f1.f0))).setCell ⟨Ka,2,none⟩ (I L ((rd_T50 l0_5 Ja).f1.f1.f0))).setCell ⟨Ka,3,none⟩ (I L ((rd_T50 l0_5 Ja).f1.f1.f1))).setCell ⟨Ka,4,none⟩ (I L ((rd_T50 l0_5 Ja).f1.f1.f2))).setCell ⟨Ka,5,none⟩ (Y A396_5 ((rd_T50 l0_5 Ja).f1.f2).length c396_5)).heap[Mc]?=some (.cells #[I L 0,I L 0,I L 0,I L 0,Y none 0 0,Y none 0 0] 37 (0,0))):=⟨pP_ Xa.out⟩;have n4_:Aside0 (((((((w19.setCell ⟨Ka,0,none⟩ (I L ((rd_T50 l0_5 Ja).f0))).setCell ⟨Ka,1,none⟩ (I L ((rd_T50 l0_5 Ja).f1.f0))).setCell ⟨Ka,2,none⟩ (I L ((rd_T50 l0_5 Ja).f1.f1.f0))).setCell ⟨Ka,3,none⟩ (I L ((rd_T50 l0_5 Ja).f1.f1.f1))).setCell ⟨Ka,4,none⟩ (I L ((rd_T50 l0_5 Ja).f1.f1.f2))).setCell ⟨Ka,5,none⟩ (Y A396_5 ((rd_T50 l0_5 Ja).f1.f2).length c396_5)).heap[Jb]?=some (.cells #[I L Ub,I L Jc,I L Kc,I L Xc,Y Oc Mb.length Uc,u396005] 37 (0,0))):=⟨pP_ Ma.out⟩
       have n5_:Aside0 (((((((w19.setCell ⟨Ka,0,none⟩ (I L ((rd_T50 l0_5 Ja).f0))).setCell ⟨Ka,1,none⟩ (I L ((rd_T50 l0_5 Ja).f1.f0))).setCell ⟨Ka,2,none⟩ (I L ((rd_T50 l0_5 Ja).f1.f1.f0))).setCell ⟨Ka,3,none⟩ (I L ((rd_T50 l0_5 Ja).f1.f1.f1))).setCell ⟨Ka,4,none⟩ (I L ((rd_T50 l0_5 Ja).f1.f1.f2))).setCell ⟨Ka,5,none⟩ (Y A396_5 ((rd_T50 l0_5 Ja).f1.f2).length c396_5)).heap[Ka]?=some (.cells #[I L ((rd_T50 l0_5 Ja).f0),I L ((rd_T50 l0_5 Ja).f1.f0),I L ((rd_T50 l0_5 Ja).f1.f1.f0),I L ((rd_T50 l0_5 Ja).f1.f1.f1),I L ((rd_T50 l0_5 Ja).f1.f1.f2),Y A396_5 ((rd_T50 l0_5 Ja).f1.f2).length c396_5] 50 (0,0))):=⟨pP_ Ua.out⟩;have n6_:Aside0 (Below w.heap.size w ((((((w19.setCell ⟨Ka,0,none⟩ (I L ((rd_T50 l0_5 Ja).f0))).setCell ⟨Ka,1,none⟩ (I L ((rd_T50 l0_5 Ja).f1.f0))).setCell ⟨Ka,2,none⟩ (I L ((rd_T50 l0_5 Ja).f1.f1.f0))).setCell ⟨Ka,3,none⟩ (I L ((rd_T50 l0_5 Ja).f1.f1.f1))).setCell ⟨Ka,4,none⟩ (I L ((rd_T50 l0_5 Ja).f1.f1.f2))).setCell ⟨Ka,5,none⟩ (Y A396_5 ((rd_T50 l0_5 Ja).f1.f2).length c396_5))):=⟨pB_ HB.out⟩;(try clear Xb);(try clear Kb);(try clear Oa);(try clear Xa);(try clear Ma);(try clear Ua);(try clear HB);generalize ((((((w19.setCell ⟨Ka,0,none⟩ (I L ((rd_T50 l0_5 Ja).f0))).setCell ⟨Ka,1,none⟩ (I L ((rd_T50 l0_5 Ja).f1.f0))).setCell ⟨Ka,2,none⟩ (I L ((rd_T50 l0_5 Ja).f1.f1.f0))).setCell ⟨Ka,3,none⟩ (I L ((rd_T50 l0_5 Ja).f1.f1.f1))).setCell ⟨Ka,4,none⟩ (I L ((rd_T50 l0_5 Ja).f1.f1.f2))).setCell ⟨Ka,5,none⟩ (Y A396_5 ((rd_T50 l0_5 Ja).f1.f2).length c396_5))=w24 at n0_ n1_ n2_ n3_ n4_ n5_ n6_ ⊢;have Xb:=n0_;have Kb:=n1_;have Oa:=n2_;have Xa:=n3_;have Ma:=n4_;have Ua:=n5_;have HB:=n6_;clear n0_ n1_ n2_ n3_ n4_ n5_ n6_
       have n_:=an_ (Kd.R_drew Xb.out)<|an_ (Kd.S_drew Kb.out)<|an_ (blk_drew Oa.out)<|an_ (blk_drew Xa.out)<|an_ (blk_drew Ma.out)<|an_ (blk_drew Ua.out)<|D (below_drew1 HB.out)
       clear Xb Kb Oa Xa Ma Ua HB;obtain ⟨Xb,Kb,Oa,Xa,Ma,Ua,HB⟩:=n_;refine start_ (n:=12) (S:=fun w'=>w'.cell? ⟨Jb,0,none⟩=some (I L Ub)∧w'.cell? ⟨Jb,1,none⟩=some (I L Jc)∧w'.cell? ⟨Jb,2,none⟩=some (I L Kc)∧w'.cell? ⟨Jb,3,none⟩=some (I L Xc)∧w'.cell? ⟨Jb,4,none⟩=some (Y Oc Mb.length Uc)∧w'.cell? ⟨Jb,5,none⟩=some (u396005)∧w'.cell? ⟨Ka,0,none⟩=some (I L ((rd_T50 l0_5 Ja).f0))∧w'.cell? ⟨Ka,1,none⟩=some (I L ((rd_T50 l0_5 Ja).f1.f0))∧w'.cell? ⟨Ka,2,none⟩=some (I L ((rd_T50 l0_5 Ja).f1.f1.f0))∧w'.cell? ⟨Ka,3,none⟩=some (I L ((rd_T50 l0_5 Ja).f1.f1.f1))∧w'.cell? ⟨Ka,4,none⟩=some (I L ((rd_T50 l0_5 Ja).f1.f1.f2))∧w'.cell? ⟨Ka,5,none⟩=some (Y A396_5 ((rd_T50 l0_5 Ja).f1.f2).length c396_5)) (ds:=[11]) (bz 12 0) (by kernel_rfl) rfl (by kernel_rfl) (bk6_ Ma.out (be6_ Ua.out)) (fun hHeld=>?_);refine with_tabW impl_copyTree.tab5 impl_copyTree.bits5 (fun HT_ HW_=>?_);generalize w24.drew=w25 at Xb Kb Oa Xa Ma Ua HB hHeld ⊢;refine pb_ 0 ?_;refine pb_ 2 ?_;refine pb_ 4 ?_;refine tb_ 1 rfl rfl hHeld Z43 ?_;refine tb_ 3 rfl rfl hHeld Z43 ?_;refine tb_ 5 rfl rfl hHeld Z43 ?_;refine oa_ 6 23 12 127 HT_ (fun K hK=>?_);refine goes_ Try.func44 (by kernel_rfl) rfl #[.agg #[I L ((rd_T50 l0_5 Ja).f1.f0),I L ((rd_T50 l0_5 Ja).f1.f1.f0),I L ((rd_T50 l0_5 Ja).f1.f1.f1),I L ((rd_T50 l0_5 Ja).f1.f1.f2),Y A396_5 ((rd_T50 l0_5 Ja).f1.f2).length c396_5]] (by rfl) rfl rfl Z17 ?_;with_reducible refine (impl_copyFair.calls ((rd_T50 l0_5 Ja).f1.f0) ((rd_T50 l0_5 Ja).f1.f1.f0) ((rd_T50 l0_5 Ja).f1.f1.f1) ((rd_T50 l0_5 Ja).f1.f1.f2) _ _ ((rd_T50 l0_5 Ja).f1.f2) Ue Xe Jf Kf Me _ ?side1 ?side2 A17.out).mono ?_
       (case side1 => exact pC_ (Kd.C_below HR396_5.out HB.out)); (case side2 => exact HC396_5.out); rintro e w26 ⟨Os, rfl, ho0, hb⟩; refine ⟨_, rfl, ?_⟩
       have n_:=an_ (Kd.R_elder' (pR_ Xb.out) (Kd.R_base ho0) hb)<|an_ (Kd.S_elder' (pS_ Kb.out) (Kd.R_base ho0) hb)<|an_ (Kd.R_lower (nw_ ho0 (pR_ Xb.out)) (below_size (pB_ HB.out)))<|an_ (blk_below (pk_ Oa.out) hb)<|an_ (blk_below (pk_ Xa.out) hb)<|an_ (blk_below (pk_ Ma.out) hb)<|an_ (blk_below (pk_ Ua.out) hb)<|D (below_step (pB_ HB.out) hb)
       clear Xb Kb Oa Xa Ma Ua HB;obtain ⟨Xb,Kb,Mf,Oa,Xa,Ma,Ua,HB⟩:=n_;obtain ⟨Jh,Kh,eo27⟩:=Kd.R_slice Mf.out;(first|subst eo27|obtain ⟨rfl,rfl⟩:=sl_inj eo27);refine hK.out _ _ (bk6_ Ma.out (be6_ Ua.out)) (fun hHeld=>?_);clear hK K;refine nx_ (N:=some 23) ?_;refine pb_ 7 ?_;refine oa_ 8 25 12 511 HT_ (fun K hK=>?_);refine value_ (w1:=?_) (v:=?_) (by rfl) rfl ?_ ?_;rotate_left 2
       ·go_simp
        constructor
        ·rfl
        ·rfl
       refine hK.out _ _ ⟨(blk_cell (blk_alloc Ma.out _) 0).trans rfl,(blk_cell (blk_alloc Ma.out _) 1).trans rfl,(blk_cell (blk_alloc Ma.out _) 2).trans rfl,(blk_cell (blk_alloc Ma.out _) 3).trans rfl,(blk_cell (blk_alloc Ma.out _) 4).trans rfl,(blk_cell (blk_alloc Ma.out _) 5).trans rfl,(blk_cell (blk_alloc Ua.out _) 0).trans rfl,(blk_cell (blk_alloc Ua.out _) 1).trans rfl,(blk_cell (blk_alloc Ua.out _) 2).trans rfl,(blk_cell (blk_alloc Ua.out _) 3).trans rfl,(blk_cell (blk_alloc Ua.out _) 4).trans rfl,(blk_cell (blk_alloc Ua.out _) 5).trans rfl⟩ (fun hHeld=>?_);clear hK K;refine nx_ (N:=some 25) ?_;refine oa_ 9 26 12 1023 HT_ (fun K hK=>?_);refine Kd.S_append_step k50 (w0:=w) w.heap.size (by rfl) (.tmp 18) (.tmp 25) 35 50 (.agg #[(I L 0),(I L 0),(I L 0),(I L 0),(I L 0),(Y none 0 0)]) 64 rfl Try.underlying35 info50 rfl (by decide) (by omega) u396005 Ud (⟨(rd_T50 l0_5 Ja).f0,(⟨Ue,(⟨Xe,Jf,Kf⟩:S31),Me⟩:S34)⟩:S50) [I L ((rd_T50 l0_5 Ja).f0),I L Ue,I L Xe,I L Jf,I L Kf,Y Jh Me.length Kh] (fun k_=>some k_≠(Y Oc Mb.length Uc:Value).ownBlock∧k_≠Ka) (fun k_=>some k_=(Y Jh Me.length Kh:Value).ownBlock) rfl rfl ?aP (fun k_ hk_=>((Kd.R_mono (ok':=fun k_=>((fun k_=>some k_≠(Y Oc Mb.length Uc:Value).ownBlock∧k_≠Ka)) k_∧some k_≠(u396005:Value).ownBlock) (Kd.R_types (Kd.R_apart' (Mf.out) (Kd.S_typed Kb.out) (by decide)) Ua.out (by decide)) (fun k_ hk=>⟨⟨hk.1.1.2,hk.2⟩,hk.1.2⟩))).1 k_ hk_.symm) ?aF ?aO ?aB ?aS ?aL ?_;(case aP=>exact k50_mkM _ _ _ (⟨(rd_T50 l0_5 Ja).f0,(⟨Ue,(⟨Xe,Jf,Kf⟩:S31),Me⟩:S34)⟩:S50) (Kd.R_mono (Kd.R_tight rfl (Kd.R_mono (ok':=fun k_=>((fun k_=>some k_≠(Y Oc Mb.length Uc:Value).ownBlock∧k_≠Ka)) k_∧some k_≠(u396005:Value).ownBlock) (Kd.R_types (Kd.R_apart' (Mf.out) (Kd.S_typed Kb.out) (by decide)) Ua.out (by decide)) (fun k_ hk=>⟨⟨hk.1.1.2,hk.2⟩,hk.1.2⟩))) (fun _ h_=>h_)));(case aB=>exact (pB_ HB.out));(case aF=>exact (fun k_ hk=>⟨Kd.fresh' (Kd.R_lt (pR_ Xb.out)) k_ hk,Kd.freshB (pk_ Ua.out) k_ hk⟩));(case aO=>exact (pS_ (Kd.S_mono Kb.out (fun k_ hk=>⟨⟨hk.1.1,hk.1.2⟩,fun e_=>hk.2 e_⟩))));(case aS=>exact (below_size (pB_ HB.out)));(case aL=>have:=LMc18.out;omega);intro Us w28 ho hb hg hat;rw [← Ny405.out] at ho
       have n_:=an_ (Kd.R_over' (pR_ Xb.out) (Kd.S_typed (pS_ Kb.out)) (by decide) hg)<|an_ (blk_grown (pk_ Oa.out) hg (Kd.S_ne Kb.out Oa.out (by decide)))<|an_ (blk_grown (pk_ Xa.out) hg (Kd.S_ne Kb.out Xa.out (by decide)))<|an_ (blk_grown (pk_ Ma.out) hg (Kd.S_ne Kb.out Ma.out (by decide)))<|an_ (blk_grown (pk_ Ua.out) hg (Kd.S_away Kb.out (fun _ hk=>hk.1.2)))<|an_ (hb)<|D (ho)
       clear Xb Oa Xa Ma Ua HB Kb Mf;obtain ⟨Xb,Oa,Xa,Ma,Ua,HB,Mh⟩:=n_;clear ho hb hg hat;obtain ⟨Xf,Jg,eo29⟩:=Kd.S_slice Mh.out;(first|subst eo29|obtain ⟨rfl,rfl⟩:=sl_inj eo29);refine hK.out _ _ (bk6_ Ma.out (be6_ Ua.out)) (fun hHeld=>?_);clear hK K;refine nx_ (N:=some 26) ?_;refine pb_ 10 ?_;refine last_ (i:=11) (N:=none) (bz 12 4095) rfl rfl (one_of HT_.out (by kernel_rfl)) (by decide) (fun K hK=>?_);have hs30:w28.cell? ⟨Jb,5,none⟩=some (u396005):=bc_ Ma.out 5;have hfs30:=blk_frozen Ma.out 5;have hns30_0:=Md.out;have hns30_1:=Od.out;have hns30_3:=Xg.out;have hms30_0:=Of.out;have hms30_1:=Uf.out;have hms30_3:=Xd.out;refine skip_ (w1:=?_) (by rfl) rfl ?_ ?_;rotate_left
       ·go_simp
        rfl
       refine hK.out _ _ ?_; clear hK K; refine done_ (done_of HT_.out (by kernel_rfl)) ?_
       try go_wp2
       go_roundg k1
       case measure => have := HK1.out; omega
       case rel=>exact ⟨(wrap64 (Ja + 1)),(y405),(Y Xf y405.length Jg),Z49,H',⟨by have:=HK1.out;omega⟩,⟨rM_ (Kd.R_types Xb.out Ma.out (by decide)) (fun _ hk=>trivial)⟩,⟨sM_ (Kd.S_types Mh.out Ma.out (by decide)) (fun _ hk=>hk.1.1)⟩,⟨pP_ Oa.out⟩,⟨pP_ Xa.out⟩,⟨pP_ Ma.out⟩,⟨pB_ HB.out⟩⟩
      ·rw [if_neg c18] at H
       exact absurd H (by simp)
     ·rw [if_neg c16] at H
      exact absurd H (by simp)
    ·rw [if_neg c15] at H
     exact absurd H (by simp)
   ·rw [if_neg c14] at H
    have c14b0:decide (Ja < (l0_5.length:Int))=false:=decide_eq_false c14;clear c14;simp only [Option.some.injEq,Prod.mk.injEq] at H;obtain ⟨rfl,rfl,rfl,rfl,rfl,rfl⟩:=H;(try have:=Of.out);(try have:=Md.out);(try have:=Uf.out);(try have:=Od.out);have Xs:=cells6 Ma.out;(try have:=Ug.out);(try have:=Og.out);have Xv:=cells6 Xa.out;obtain ⟨Kg,Mg,eo36⟩:=Kd.S_slice Kb.out;subst eo36
    go_wp2
    refine bodyPost_ret (results_cell_row rfl _ _ Mc 37 #[I L Ub,I L Jc,I L Kc,I L Xc,Y Oc Mb.length Uc,Y Kg Ud.length Mg] (0,0) _ rfl (by exact pP_ Xa.out) Try.underlying37 rfl (by kernel_rfl)) rfl ?_;exact ⟨_,_,er_,by (with_reducible repeat (first|apply Kd.R_alloc|apply Kd.R_drewN|apply Kd.R_drew));exact Kd.R_mono (fr_ (fr_ (fr_ (fr_ (fr_ (fr_ (Kd.R_types Xb.out Xa.out (by decide)) 0 (I L Ub)) 1 (I L Jc)) 2 (I L Kc)) 3 (I L Xc)) 4 (Y Oc Mb.length Uc)) 5 (Y Kg Ud.length Mg)) (fun _ hk=>trivial),by (with_reducible repeat (first|apply Kd.S_alloc|apply Kd.S_drewN|apply Kd.S_drew));exact Kd.S_mono (Kd.S_far (p:=⟨Mc,5,none⟩) (Kd.S_far (p:=⟨Mc,4,none⟩) (Kd.S_far (p:=⟨Mc,3,none⟩) (Kd.S_far (p:=⟨Mc,2,none⟩) (Kd.S_far (p:=⟨Mc,1,none⟩) (Kd.S_far (p:=⟨Mc,0,none⟩) (Kd.S_types Kb.out Xa.out (by decide)) (fun _ hk=>hk.2) (I L Ub)) (fun _ hk=>hk.2) (I L Jc)) (fun _ hk=>hk.2) (I L Kc)) (fun _ hk=>hk.2) (I L Xc)) (fun _ hk=>hk.2) (Y Oc Mb.length Uc)) (fun _ hk=>hk.2) (Y Kg Ud.length Mg)) (fun _ hk=>hk.1),pB_ HB.out⟩

/-! ### impl_Tree_change: function 19 -/
def impl_Tree_change.f (k : Nat) (a0_0 a0_1 a0_2 a0_3 : Int) (l0_4 : List (S67)) (l0_5 : List (S50)) (a1 : Int) (a2 : (Int → Int → Int → Int → (List (S67)) → Option (Int × Int × Int × Int × List (S67) × Int))) : Option (Int × Int × Int × Int × (List (S67)) × (List (S50)) × Int × Int) := (impl_TreeOk.f k a0_0 a0_1 a0_2 a0_3 l0_4 l0_5).bind fun Xo => (if Xo = true then ((impl_Fair_at.f k a0_0 a0_1 a0_2 a0_3 l0_4 a1).bind fun Jd => (if Jd < 0 then (some (0, 0, 0, 0, ([] : List (S67)), ([] : List (S50)), 0, 4)) else (if 0 ≤ Jd then (if Jd < (l0_5.length : Int) then ((a2 ((rd_T50 l0_5 Jd).f1.f0) ((rd_T50 l0_5 Jd).f1.f1.f0) ((rd_T50 l0_5 Jd).f1.f1.f1) ((rd_T50 l0_5 Jd).f1.f1.f2) ((rd_T50 l0_5 Jd).f1.f2)).bind fun bt413 => (if bt413.2.2.2.2.2 = 0 then ((impl_copyTree.f k a0_0 a0_1 a0_2 a0_3 l0_4 l0_5).bind fun bt422 => (if Jd < (bt422.2.2.2.2.2.length : Int) then (some (bt422.1, bt422.2.1, bt422.2.2.1, bt422.2.2.2.1, bt422.2.2.2.2.1, (bt422.2.2.2.2.2.set (Jd : Int).toNat (⟨(rd_T50 bt422.2.2.2.2.2 Jd).f0, (⟨bt413.1, (⟨bt413.2.1, bt413.2.2.1, bt413.2.2.2.1⟩ : S31), bt413.2.2.2.2.1⟩ : S34)⟩ : S50)), Jd, 0)) else (none))) else (some (0, 0, 0, 0, ([] : List (S67)), ([] : List (S50)), 0, bt413.2.2.2.2.2)))) else (none)) else (none)))) else (some (0, 0, 0, 0, ([] : List (S67)), ([] : List (S50)), 0, 1)))
set_option maxHeartbeats 8000000 in
set_option maxRecDepth 100000 in
theorem impl_Tree_change.calls (k : Nat) (a0_0 a0_1 a0_2 a0_3 : Int) (A0_4 : Option Addr) (c0_4 : Nat) (l0_4 : List (S67)) (A0_5 : Option Addr) (c0_5 : Nat) (l0_5 : List (S50)) (a1 : Int) (a2 : (Int → Int → Int → Int → (List (S67)) → Option (Int × Int × Int × Int × List (S67) × Int))) (fn2 : Nat) (cp2 : Array Value) (r1 r2 r3 r4 : Int) (r5 : List (S67)) (r6 : List (S50)) (r7 r8 : Int) (w : World) (hr0_4 : Kd.C k67 w A0_4 l0_4.length l0_4) (hc0_4 : l0_4.length ≤ c0_4) (hr0_5 : Kd.C k50 w A0_5 l0_5.length l0_5) (hc0_5 : l0_5.length ≤ c0_5) (hq2 : Aside0 (∃ F_, Try.prog.funcs[fn2]? = some F_ ∧ (F_.name == "runtime.NumGoroutine") = false ∧ F_.body.isSome = true)) (HP2_19 : Aside0 (∀ (a900_0 a900_1 a900_2 a900_3 : Int) (A900_4 : Option Addr) (c900_4 : Nat) (l900_4 : List (S67)) (rr0_ rr1_ rr2_ rr3_ : Int) (rr4_ : List (S67)) (rr5_ : Int) (W_ : World), Below w.heap.size w W_ → Kd.C k67 W_ A900_4 l900_4.length l900_4 → l900_4.length ≤ c900_4 → a2 a900_0 a900_1 a900_2 a900_3 l900_4 = some (rr0_, rr1_, rr2_, rr3_, rr4_, rr5_) → Calls Try.prog fn2 (#[.agg #[I L a900_0, I L a900_1, I L a900_2, I L a900_3, Y A900_4 l900_4.length c900_4]] ++ cp2) W_ (fun e w' => ∃ vv4_ : Value, e = .returned (.tuple #[.agg #[I L rr0_, I L rr1_, I L rr2_, I L rr3_, vv4_], I L rr5_]) ∧ Kd.R k67 67 w' W_.heap.size (fun _ => True) vv4_ rr4_ ∧ Below W_.heap.size W_ w'))) (h : impl_Tree_change.f k a0_0 a0_1 a0_2 a0_3 l0_4 l0_5 a1 a2 = some (r1, r2, r3, r4, r5, r6, r7, r8)) :
  Calls Try.prog 19 #[.agg #[I L a0_0,I L a0_1,I L a0_2,I L a0_3,Y A0_4 l0_4.length c0_4,Y A0_5 l0_5.length c0_5],I L a1,.func (.func fn2) #[] cp2] w fun e w'=>∃ v4_ v5_:Value,e=.returned (.tuple #[.agg #[I L r1,I L r2,I L r3,I L r4,v4_,v5_],I L r7,I L r8])∧Kd.R k67 67 w' w.heap.size (fun _=>True) v4_ r5∧Kd.S k50 50 w' w.heap.size (fun k_=>some k_≠(v4_:Value).ownBlock) v5_ r6∧Below w.heap.size w w':=by
 have hu37 := Try.underlying37
 have hu34 := Try.underlying34
 have HR0_4 := D hr0_4
 have HC0_4 := D hc0_4
 clear hr0_4 hc0_4
 have HR0_5 := D hr0_5
 have HC0_5 := D hc0_5
 clear hr0_5 hc0_5
 have HB := D (Below.refl w.heap.size w)
 have H:((impl_TreeOk.f k a0_0 a0_1 a0_2 a0_3 l0_4 l0_5).bind fun Mg=>(if Mg=true then ((impl_Fair_at.f k a0_0 a0_1 a0_2 a0_3 l0_4 a1).bind fun Ja=>(if Ja < 0 then (some (0,0,0,0,([]:List (S67)),([]:List (S50)),0,4)) else (if 0≤Ja then (if Ja < (l0_5.length:Int) then ((a2 ((rd_T50 l0_5 Ja).f1.f0) ((rd_T50 l0_5 Ja).f1.f1.f0) ((rd_T50 l0_5 Ja).f1.f1.f1) ((rd_T50 l0_5 Ja).f1.f1.f2) ((rd_T50 l0_5 Ja).f1.f2)).bind fun bt413=>(if bt413.2.2.2.2.2=0 then ((impl_copyTree.f k a0_0 a0_1 a0_2 a0_3 l0_4 l0_5).bind fun bt422=>(if Ja < (bt422.2.2.2.2.2.length:Int) then (some (bt422.1,bt422.2.1,bt422.2.2.1,bt422.2.2.2.1,bt422.2.2.2.2.1,(bt422.2.2.2.2.2.set (Ja:Int).toNat (⟨(rd_T50 bt422.2.2.2.2.2 Ja).f0,(⟨bt413.1,(⟨bt413.2.1,bt413.2.2.1,bt413.2.2.2.1⟩:S31),bt413.2.2.2.2.1⟩:S34)⟩:S50)),Ja,0)) else (none))) else (some (0,0,0,0,([]:List (S67)),([]:List (S50)),0,bt413.2.2.2.2.2)))) else (none)) else (none)))) else (some (0,0,0,0,([]:List (S67)),([]:List (S50)),0,1))))=some (r1,r2,r3,r4,r5,r6,r7,r8):=h
 clear h
 obtain ⟨Mg, A40, H⟩ := bs_.mp H
 (try dsimp only at H)
 have A4 := D A40
 clear A40
 have HU5 := D H
 clear H
 go_enter Try.func19, Try.ntmps19
 go_upto_if 15 with (first|((with_reducible refine gate_dst (N:=3) rfl ?_);refine bx_ (N:=3) (cs:=#[I L a0_0,I L a0_1,I L a0_2,I L a0_3,Y A0_4 l0_4.length c0_4,Y A0_5 l0_5.length c0_5]) (t:=37) ?_;intro Jd hg w6 hbox hb;have n_:=an_ (below_step (pB_ HB.out) hb)<|an_ (hbox)<|an_ (bg_ hg (pB_ HB.out):w.heap.size≤Jd)<|D (bg_ hg (pB_ HB.out):w.heap.size≤Jd);clear HB;obtain ⟨HB,Ma,Oh,Uh⟩:=n_;clear hb hbox hg)|((with_reducible refine gate_dst (N:=6) rfl ?_);refine bx_ (N:=6) (cs:=#[I L 0,I L 0,I L 0,I L 0,Y none 0 0,Y none 0 0]) (t:=37) ?_;intro Kb hg w7 hbox hb;have n_:=an_ (blk_below (pk_ Ma.out) hb)<|an_ (below_step (pB_ HB.out) hb)<|an_ (hbox)<|an_ (bg_ hg (pB_ HB.out):w.heap.size≤Kb)<|an_ (bg_ hg (pB_ HB.out):w.heap.size≤Kb)<|an_ (nl_ hg (pk_ Ma.out):Jd≠Kb)<|D (by rw [hg];exact Nat.ne_of_gt (blk_lt (pk_ Ma.out)):Kb≠Jd);clear Ma HB;obtain ⟨Ma,HB,Ka,Xh,Ji,Jf,Kf⟩:=n_;clear hb hbox hg;(try have:=Jf.out);(try have:=Kf.out);have Ki:=cells6 Ma.out)|((with_reducible refine gate_callee (f:=38) rfl ?_);refine goesL_ (some 14) rfl rfl Try.func38 (by kernel_rfl) rfl #[.agg #[I L a0_0,I L a0_1,I L a0_2,I L a0_3,Y A0_4 l0_4.length c0_4,Y A0_5 l0_5.length c0_5]] rfl Z17 ?_;(with_reducible refine (impl_TreeOk.calls k a0_0 a0_1 a0_2 a0_3 _ _ l0_4 _ _ l0_5 Mg _ ?side1 ?side2 ?side3 ?side4 A4.out).mono ?_);(case side1=>exact pC_ (Kd.C_below HR0_4.out HB.out));(case side2=>exact HC0_4.out);(case side3=>exact pC_ (Kd.C_below HR0_5.out HB.out));(case side4=>exact HC0_5.out);rintro e w10 ⟨rfl,hb⟩;refine ⟨_,rfl,?_⟩;have n_:=an_ (blk_below (pk_ Ma.out) hb)<|an_ (blk_below (pk_ Ka.out) hb)<|D (below_step (pB_ HB.out) hb);clear Ma Ka HB;obtain ⟨Ma,Ka,HB⟩:=n_;(try clear hb)))
 have H := HU5.out
 clear HU5
 by_cases c11 : Mg = true
 ·subst c11
  rw [if_pos rfl] at H;obtain ⟨Ja,A120,H⟩:=bs_.mp H;(try dsimp only at H);have A12:=D A120;clear A120;have HU13:=D H;clear H;(try have:=Jf.out);(try have:=Kf.out);have Kk:=cells6 Ma.out
  go_upto_if 22 with (first|((with_reducible refine gate_callee (f:=39) rfl ?_);refine goesL_ (some 20) rfl rfl Try.func39 (by kernel_rfl) rfl #[.agg #[I L a0_0,I L a0_1,I L a0_2,I L a0_3,Y A0_4 l0_4.length c0_4],I L a1] rfl Z17 ?_;(with_reducible refine (impl_Fair_at.calls k a0_0 a0_1 a0_2 a0_3 _ _ l0_4 a1 Ja _ ?side1 ?side2 A12.out).mono ?_);(case side1=>exact pC_ (Kd.C_below HR0_4.out HB.out));(case side2=>exact HC0_4.out);rintro e w16 ⟨rfl,hb⟩;refine ⟨_,rfl,?_⟩;have n_:=an_ (blk_below (pk_ Ma.out) hb)<|an_ (blk_below (pk_ Ka.out) hb)<|D (below_step (pB_ HB.out) hb);clear Ma Ka HB;obtain ⟨Ma,Ka,HB⟩:=n_;(try clear hb)))
  have H := HU13.out; clear HU13
  by_cases c17 : Ja < 0
  ·rw [if_pos c17] at H
   have c17b0:decide (Ja < 0)=true:=decide_eq_true c17;clear c17;refine rw_ c17b0 ?_;simp only [Option.some.injEq,Prod.mk.injEq] at H;obtain ⟨rfl,rfl,rfl,rfl,rfl,rfl,rfl,rfl⟩:=H;(try have:=Kf.out);(try have:=Jf.out);have Kn:=cells6 Ka.out
   go_wp2
   refine bodyPost_ret (results_ctt rfl _ _ Kb 37 #[I L 0,I L 0,I L 0,I L 0,Y none 0 0,Y none 0 0] (0,0) _ rfl Z4 Try.underlying37 rfl (by kernel_rfl)) rfl ?_;exact ⟨_,_,er_,by first|exact Kd.R_nil _ _ _ _ _|exact Kd.N_nil _ _ _ _ _|exact Kd.V_nil _ _ _ _ _|exact Kd.Q_nil _ _ _ _ _|exact Kd.S_nil _ _ _ _ _,by first|exact Kd.S_nil _ _ _ _ _|exact Kd.N_nil _ _ _ _ _|exact Kd.V_nil _ _ _ _ _|exact Kd.Q_nil _ _ _ _ _|exact Kd.R_nil _ _ _ _ _,pB_ HB.out⟩
  ·rw [if_neg c17] at H
   have c17b0:decide (Ja < 0)=false:=decide_eq_false c17;clear c17;refine rw_ c17b0 ?_
   by_cases c20 : 0 ≤ Ja
   ·rw [if_pos c20] at H
    have c20b0 : decide (0 ≤ Ja) = true := decide_eq_true c20; clear c20
    by_cases c21 : Ja < (l0_5.length : Int)
    ·rw [if_pos c21] at H
     have c21b0:decide (Ja < (l0_5.length:Int))=true:=decide_eq_true c21;clear c21;obtain ⟨⟨Od,Xd,Je,Ke,Xc,Kg⟩,A220,H⟩:=bs_.mp H;(try dsimp only at H);have A22:=D A220;clear A220;have HU23:=D H;clear H;(try have:=Jf.out);(try have:=Kf.out);have Kp:=cells6 Ma.out;have p412:0≤(Ja:Int):=od_ Z48;have q412:Ja < (l0_5.length:Int):=od_ Z48;obtain ⟨ad412,A412_5,c412_5,e412,hx412_0,hx412_1,hx412_2,hx412_3,hx412_4,hx412_5,hl412_5,hi412_5⟩:=at_T50 HR0_5.out Ja p412 q412;cases e412;replace hx412_0:=rc_ HB.out hx412_0;replace hx412_1:=rc_ HB.out hx412_1;replace hx412_2:=rc_ HB.out hx412_2;replace hx412_3:=rc_ HB.out hx412_3;replace hx412_4:=rc_ HB.out hx412_4;replace hx412_5:=rc_ HB.out hx412_5;have HR412_5:=D hi412_5;have HC412_5:=D hl412_5;clear hi412_5 hl412_5;replace p412:=eq_true p412;replace q412:=eq_true q412
     go_upto_if 36 with (first|((with_reducible refine gate_calleeV (j:=25) rfl ?_);obtain ⟨_,hF1_,hF2_,hF3_⟩:=hq2.out;refine goesVL_ (some 32) rfl rfl hF1_ hF2_ hF3_ #[.agg #[I L ((rd_T50 l0_5 Ja).f1.f0),I L ((rd_T50 l0_5 Ja).f1.f1.f0),I L ((rd_T50 l0_5 Ja).f1.f1.f1),I L ((rd_T50 l0_5 Ja).f1.f1.f2),Y A412_5 ((rd_T50 l0_5 Ja).f1.f2).length c412_5]] (cp:=cp2) rfl (by first|rfl|(go_simp;done)|simp) Z17 ?_;(with_reducible refine (HP2_19.out ((rd_T50 l0_5 Ja).f1.f0) ((rd_T50 l0_5 Ja).f1.f1.f0) ((rd_T50 l0_5 Ja).f1.f1.f1) ((rd_T50 l0_5 Ja).f1.f1.f2) _ _ ((rd_T50 l0_5 Ja).f1.f2) Od Xd Je Ke Xc Kg _ ?side1 ?side2 ?side3 A22.out).mono ?_);(case side1=>exact pB_ HB.out);(case side2=>exact pC_ (Kd.C_below HR412_5.out HB.out));(case side3=>exact HC412_5.out);rintro e w26 ⟨Kr,rfl,ho0,hb⟩;refine ⟨_,rfl,?_⟩;have n_:=an_ (Kd.R_lower ho0 (below_size (pB_ HB.out)))<|an_ (blk_below (pk_ Ma.out) hb)<|an_ (blk_below (pk_ Ka.out) hb)<|D (below_step (pB_ HB.out) hb);clear Ma Ka HB;obtain ⟨Xb,Ma,Ka,HB⟩:=n_;(try clear hb);(try clear ho0))|((with_reducible refine gate_dst (N:=10) rfl ?_);refine bx_ (N:=10) (cs:=#[I L 0,I L 0,I L 0,I L 0,Y none 0 0]) (t:=34) ?_;intro Jc hg w27 hbox hb;have n_:=an_ (Kd.R_below (pR_ Xb.out) hb)<|an_ (blk_below (pk_ Ma.out) hb)<|an_ (blk_below (pk_ Ka.out) hb)<|an_ (below_step (pB_ HB.out) hb)<|an_ (hbox)<|an_ (bg_ hg (pB_ HB.out):w.heap.size≤Jc)<|an_ (bg_ hg (pB_ HB.out):w.heap.size≤Jc)<|an_ (nl_ hg (pk_ Ma.out):Jd≠Jc)<|an_ (ng_ hg (pk_ Ma.out):Jc≠Jd)<|an_ (nl_ hg (pk_ Ka.out):Kb≠Jc)<|D (by rw [hg];exact Nat.ne_of_gt (blk_lt (pk_ Ka.out)):Jc≠Kb);clear Xb Ma Ka HB;obtain ⟨Xb,Ma,Ka,HB,Ua,Mr,Ur,Mf,Ug,Xe,Og⟩:=n_;clear hb hbox hg;(try have:=Ug.out);(try have:=Mf.out);(try have:=Og.out);(try have:=Xe.out);have Xr:=cells5 Ua.out;obtain ⟨Me,Oe,eo31⟩:=Kd.R_slice Xb.out;subst eo31))
     refine relet_ (F:=fun w32=>Aside0 (Kd.R k67 67 w32 w.heap.size (fun _=>True) (Y Me Xc.length Oe) Xc)∧Aside0 (w32.heap[Jd]?=some (.cells #[I L a0_0,I L a0_1,I L a0_2,I L a0_3,Y A0_4 l0_4.length c0_4,Y (some ad412) l0_5.length c0_5] 37 (0,0)))∧Aside0 (w32.heap[Kb]?=some (.cells #[I L 0,I L 0,I L 0,I L 0,Y none 0 0,Y none 0 0] 37 (0,0)))∧Aside0 (w32.heap[Jc]?=some (.cells #[I L Od,I L Xd,I L Je,I L Ke,Y Me Xc.length Oe] 34 (0,0)))∧Aside0 (Below w.heap.size w w32)) ⟨⟨rM_ (Kd.R_types Xb.out Ua.out (by decide)) (fun _ hk=>trivial)⟩,⟨pP_ Ma.out⟩,⟨pP_ Ka.out⟩,⟨pP_ Ua.out⟩,⟨pB_ HB.out⟩⟩ ?_;(try clear Xb);(try clear Ma);(try clear Ka);(try clear Ua);(try clear HB);rintro w32 ⟨Xb,Ma,Ka,Ua,HB⟩;have H:=HU23.out;clear HU23
     by_cases c33 : Kg = 0
     ·rw [if_pos c33] at H
      have c33b0:(Kg == 0)=true:=beq_iff_eq.mpr c33;have c33b1:(Kg != 0)=false:=bne_eq_false_iff_eq.mpr c33;clear c33;refine rw_ c33b0 ?_;obtain ⟨⟨Mb,Kc,Uc,Md,Ob,Jb⟩,A340,H⟩:=bs_.mp H;(try dsimp only at H);have A34:=D A340;clear A340
      by_cases c35 : Ja < (Jb.length : Int)
      ·rw [if_pos c35] at H
       have c35b0:decide (Ja < (Jb.length:Int))=true:=decide_eq_true c35;clear c35;obtain ⟨y433,hy433⟩:∃ y_:List (S50),y_=(Jb.set (Ja:Int).toNat (⟨(rd_T50 Jb Ja).f0,(⟨Od,(⟨Xd,Je,Ke⟩:S31),Xc⟩:S34)⟩:S50)):=⟨_,rfl⟩
       replace H:(some (Mb,Kc,Uc,Md,Ob,y433,Ja,0))=some (r1,r2,r3,r4,r5,r6,r7,r8):=by first|(rw [hy433];with_reducible exact H)|(have H2_:=(Option.bind_some _ _).symm.trans H;rw [hy433];with_reducible exact H2_)|(have H2_:=(Option.bind_some _ _).symm.trans H;with_reducible exact H2_)|with_reducible exact H|(rw [hy433];exact H)|exact H
       have Ny433:=D hy433;clear hy433;simp only [Option.some.injEq,Prod.mk.injEq] at H;obtain ⟨rfl,rfl,rfl,rfl,rfl,rfl,rfl,rfl⟩:=H;(try have:=Jf.out);(try have:=Kf.out);(try have:=Mf.out);(try have:=Ug.out);have Ou:=cells6 Ma.out
       go_wp2_with (first|((with_reducible refine gate_callee (f:=40) rfl ?_);refine goesL_ (some 40) rfl rfl Try.func40 (by kernel_rfl) rfl #[.agg #[I L a0_0,I L a0_1,I L a0_2,I L a0_3,Y A0_4 l0_4.length c0_4,Y (some ad412) l0_5.length c0_5]] rfl Z17 ?_;(with_reducible refine (impl_copyTree.calls k a0_0 a0_1 a0_2 a0_3 _ _ l0_4 _ _ l0_5 Mb Kc Uc Md Ob Jb _ ?side1 ?side2 ?side3 ?side4 A34.out).mono ?_);(case side1=>exact pC_ (Kd.C_below HR0_4.out HB.out));(case side2=>exact HC0_4.out);(case side3=>exact pC_ (Kd.C_below HR0_5.out HB.out));(case side4=>exact HC0_5.out);rintro e w40 ⟨Ox,Ux,rfl,ho0,ho1,hb⟩;refine ⟨_,rfl,?_⟩;have n_:=an_ (Kd.R_elder' (pR_ Xb.out) (Kd.R_base ho0) hb)<|an_ (Kd.R_lower (nw_ ho0 (pR_ Xb.out)) (below_size (pB_ HB.out)))<|an_ (Kd.S_lower (Kd.S_new' ho1 (Kd.R_lt (pR_ Xb.out))) (below_size (pB_ HB.out)))<|an_ (blk_below (pk_ Ma.out) hb)<|an_ (blk_below (pk_ Ka.out) hb)<|an_ (blk_below (pk_ Ua.out) hb)<|D (below_step (pB_ HB.out) hb);clear Xb Ma Ka Ua HB;obtain ⟨Xb,Ue,Ub,Ma,Ka,Ua,HB⟩:=n_;(try clear hb);(try clear ho0);(try clear ho1))|((with_reducible refine gate_dst (N:=12) rfl ?_);refine bx_ (N:=12) (cs:=#[I L 0,I L 0,I L 0,I L 0,Y none 0 0,Y none 0 0]) (t:=37) ?_;intro Xa hg w41 hbox hb;have n_:=an_ (Kd.R_below (pR_ Xb.out) hb)<|an_ (Kd.R_below (pR_ Ue.out) hb)<|an_ (Kd.S_below (pS_ Ub.out) hb)<|an_ (blk_below (pk_ Ma.out) hb)<|an_ (blk_below (pk_ Ka.out) hb)<|an_ (blk_below (pk_ Ua.out) hb)<|an_ (below_step (pB_ HB.out) hb)<|an_ (hbox)<|an_ (bg_ hg (pB_ HB.out):w.heap.size≤Xa)<|an_ (bg_ hg (pB_ HB.out):w.heap.size≤Xa)<|an_ (nl_ hg (pk_ Ma.out):Jd≠Xa)<|an_ (ng_ hg (pk_ Ma.out):Xa≠Jd)<|an_ (nl_ hg (pk_ Ka.out):Kb≠Xa)<|an_ (ng_ hg (pk_ Ka.out):Xa≠Kb)<|an_ (nl_ hg (pk_ Ua.out):Jc≠Xa)<|D (by rw [hg];exact Nat.ne_of_gt (blk_lt (pk_ Ua.out)):Xa≠Jc);clear Xb Ue Ub Ma Ka Ua HB;obtain ⟨Xb,Ue,Ub,Ma,Ka,Ua,HB,Oa,Xx,Jy,Of,Jh,Uf,Kh,Xf,Mh⟩:=n_;clear hb hbox hg;(try have:=Jh.out);(try have:=Of.out);(try have:=Kh.out);(try have:=Uf.out);(try have:=Mh.out);(try have:=Xf.out);have Ky:=cells6 Oa.out;obtain ⟨Mc,Oc,eo46⟩:=Kd.R_slice Ue.out;subst eo46;obtain ⟨Jg,Ud,eo47⟩:=Kd.S_slice Ub.out;subst eo47)|((with_reducible refine gate_store (t:=37) (p:=12) rfl ?_);refine store_event (t:=37) (p:=12) (v:=?vo_w48) (w1:=((((((w41.setCell ⟨Xa,0,none⟩ (I L Mb)).setCell ⟨Xa,1,none⟩ (I L Kc)).setCell ⟨Xa,2,none⟩ (I L Uc)).setCell ⟨Xa,3,none⟩ (I L Md)).setCell ⟨Xa,4,none⟩ (Y Mc Ob.length Oc)).setCell ⟨Xa,5,none⟩ (Y Jg Jb.length Ud))) ?hg ?ho ?hn ?hr ?_;(case ho=>rfl);(case hg=>rfl);(case hn=>rfl);(case hr=>first|(go_simp;done)|(go_simp;rfl));intro w48 hw;have n0_:Aside0 (Kd.R k67 67 w48 w.heap.size (fun k_=>some k_≠(Y Mc Ob.length Oc:Value).ownBlock) (Y Me Xc.length Oe) Xc):=⟨(by rw [hw];exact (rM_ (Kd.R_types Xb.out Oa.out (by decide)) (fun _ hk=>hk.1.2)))⟩;have n1_:Aside0 (Kd.R k67 67 w48 w.heap.size (fun k_=>some k_≠(Y Me Xc.length Oe:Value).ownBlock) (Y Mc Ob.length Oc) Ob):=⟨(by rw [hw];exact (rM_ (Kd.R_types Ue.out Oa.out (by decide)) (fun _ hk=>hk.1.2)))⟩;have n2_:Aside0 (Kd.S k50 50 w48 w.heap.size (fun k_=>some k_≠(Y Me Xc.length Oe:Value).ownBlock∧some k_≠(Y Mc Ob.length Oc:Value).ownBlock) (Y Jg Jb.length Ud) Jb):=⟨(by rw [hw];exact (sM_ (Kd.S_types Ub.out Oa.out (by decide)) (fun _ hk=>⟨hk.1.2,hk.1.1⟩)))⟩;have n3_:Aside0 (w48.heap[Jd]?=some (.cells #[I L a0_0,I L a0_1,I L a0_2,I L a0_3,Y A0_4 l0_4.length c0_4,Y (some ad412) l0_5.length c0_5] 37 (0,0))):=⟨(by rw [hw];exact (by exact pP_ Ma.out))⟩;have n4_:Aside0 (w48.heap[Kb]?=some (.cells #[I L 0,I L 0,I L 0,I L 0,Y none 0 0,Y none 0 0] 37 (0,0))):=⟨(by rw [hw];exact (by exact pP_ Ka.out))⟩;have n5_:Aside0 (w48.heap[Jc]?=some (.cells #[I L Od,I L Xd,I L Je,I L Ke,Y Me Xc.length Oe] 34 (0,0))):=⟨(by rw [hw];exact (by exact pP_ Ua.out))⟩;have n6_:Aside0 (w48.heap[Xa]?=some (.cells #[I L Mb,I L Kc,I L Uc,I L Md,Y Mc Ob.length Oc,Y Jg Jb.length Ud] 37 (0,0))):=⟨(by rw [hw];exact (by exact pP_ Oa.out))⟩;have n7_:Aside0 (Below w.heap.size w w48):=⟨(by rw [hw];exact (pB_ HB.out))⟩;clear hw;clear Xb;clear Ue;clear Ub;clear Ma;clear Ka;clear Ua;clear Oa;clear HB;have Xb:=n0_;have Ue:=n1_;have Ub:=n2_;have Ma:=n3_;have Ka:=n4_;have Ua:=n5_;have Oa:=n6_;have HB:=n7_;clear n0_ n1_ n2_ n3_ n4_ n5_ n6_ n7_;have Ka1:=cells6 Oa.out;(try have:=Og.out);(try have:=Xe.out);have Kc1:=cells5 Ua.out;have p36:0≤(Ja:Int):=od_ Z48;have q36:(Ja:Int) < ((Jb.length:Int):Int):=od_ Z48;obtain ⟨go36,Xd1,eo36,Xg,gl36,cl36,HG36⟩:=Kd.S_form Ub.out (by omega);(first|cases eo36|(injection eo36 with ea_ en_ ec_;(first|subst ea_|(injection ea_ with ea_;subst ea_));subst ec_;clear en_));have GB36:=D Xg;have GG36:=D HG36;clear Xg gl36 HG36;obtain ⟨_,ce36,hcl36,hM36,hcc36,hfr36,_,_⟩:=Kd.S_elem Ub.out z50 (Ja:Int) p36 q36;obtain ⟨ve36_5,rfl,ge36_5⟩:=k50_openM hM36;have hx36_0:w48.cell? ⟨go36,(Ja:Int).toNat * 6,none⟩=some (I L ((rd_T50 Jb Ja).f0)):=hcc36 0 _ rfl;have hx36_1:w48.cell? ⟨go36,(Ja:Int).toNat * 6 + 1,none⟩=some (I L ((rd_T50 Jb Ja).f1.f0)):=hcc36 1 _ rfl;have hx36_2:w48.cell? ⟨go36,(Ja:Int).toNat * 6 + 2,none⟩=some (I L ((rd_T50 Jb Ja).f1.f1.f0)):=hcc36 2 _ rfl;have hx36_3:w48.cell? ⟨go36,(Ja:Int).toNat * 6 + 3,none⟩=some (I L ((rd_T50 Jb Ja).f1.f1.f1)):=hcc36 3 _ rfl;have hx36_4:w48.cell? ⟨go36,(Ja:Int).toNat * 6 + 4,none⟩=some (I L ((rd_T50 Jb Ja).f1.f1.f2)):=hcc36 4 _ rfl;have hx36_5:w48.cell? ⟨go36,(Ja:Int).toNat * 6 + 5,none⟩=some (ve36_5):=hcc36 5 _ rfl;have hf36_0:w48.frozen? ⟨go36,(Ja:Int).toNat * 6,none⟩=false:=hfr36 0;have hf36_1:w48.frozen? ⟨go36,(Ja:Int).toNat * 6 + 1,none⟩=false:=hfr36 1;have hf36_2:w48.frozen? ⟨go36,(Ja:Int).toNat * 6 + 2,none⟩=false:=hfr36 2;have hf36_3:w48.frozen? ⟨go36,(Ja:Int).toNat * 6 + 3,none⟩=false:=hfr36 3;have hf36_4:w48.frozen? ⟨go36,(Ja:Int).toNat * 6 + 4,none⟩=false:=hfr36 4;have hf36_5:w48.frozen? ⟨go36,(Ja:Int).toNat * 6 + 5,none⟩=false:=hfr36 5;clear hcl36 hcc36 hfr36 hM36;replace p36:=eq_true p36;replace q36:=eq_true q36;have HX52:=D (show Kd.S k50 50 w48 w.heap.size (fun k_=>((fun k_=>some k_≠(Y Mc Ob.length Oc:Value).ownBlock)) k_∧¬ ((fun k_=>some k_=(Y Me Xc.length Oe:Value).ownBlock)) k_) (Y (some ⟨go36,0,none⟩) Jb.length Ud) Jb from (pS_ (Kd.S_mono Ub.out (fun k_ hk=>⟨hk.2,fun e_=>hk.1 e_⟩))));obtain ⟨oki52,ce52,hcl52,hM52,hcc52,hfr52,hoki52,hH52⟩:=Kd.S_elem HX52.out z50 (Ja:Int) (od_ Z48) (by have h_:(Ja:Int) < ((Jb.length:Int):Int):=od_ Z48;first|exact h_|(have e_:=(Kd.S_reads' Ub.out).1;omega)|simpa using h_);obtain ⟨ve52_5,rfl,ge52_5⟩:=k50_openM hM52;have HP52:=Kd.S_seg hH52 (od_ Z48) (by have h_:(Ja:Int) < ((Jb.length:Int):Int):=od_ Z48;first|exact h_|(have e_:=(Kd.S_reads' Ub.out).1;omega)|simpa using h_) (seg:=[I L Od,I L Xd,I L Je,I L Ke,Y Me Xc.length Oe]) (j:=1) (show 6≤6 from by decide) (x':=(⟨(rd_T50 Jb Ja).f0,(⟨Od,(⟨Xd,Je,Ke⟩:S31),Xc⟩:S34)⟩:S50)) (k50_mkM _ _ _ (⟨(rd_T50 Jb Ja).f0,(⟨Od,(⟨Xd,Je,Ke⟩:S31),Xc⟩:S34)⟩:S50) (Kd.R_mono (Kd.R_tight rfl (Kd.R_mono (ok':=fun k_=>((fun k_=>some k_≠(Y Mc Ob.length Oc:Value).ownBlock)) k_∧k_≠go36) (Kd.R_apart' (Xb.out) (Kd.S_typed Ub.out) (by decide)) (fun k_ hk=>⟨hk.1,fun e_=>(hk.2) (by rw [e_];rfl)⟩))) (fun _ h_=>Or.inr (h_)))) (fun _ hk=>hk) (fun k_ hk_=>((Kd.R_mono (ok':=fun k_=>((fun k_=>some k_≠(Y Mc Ob.length Oc:Value).ownBlock)) k_∧k_≠go36) (Kd.R_apart' (Xb.out) (Kd.S_typed Ub.out) (by decide)) (fun k_ hk=>⟨hk.1,fun e_=>(hk.2) (by rw [e_];rfl)⟩))).1 k_ hk_.symm);have hx52_1:=hcc52 1 _ rfl;(try simp only [show (k50).sz=6 from rfl,Nat.mul_one,Nat.add_zero] at hx52_1);have hf52_1:=hfr52 1;(try simp only [show (k50).sz=6 from rfl,Nat.mul_one,Nat.add_zero] at hf52_1);have hx52_2:=hcc52 2 _ rfl;(try simp only [show (k50).sz=6 from rfl,Nat.mul_one,Nat.add_zero] at hx52_2);have hf52_2:=hfr52 2;(try simp only [show (k50).sz=6 from rfl,Nat.mul_one,Nat.add_zero] at hf52_2);have hx52_3:=hcc52 3 _ rfl;(try simp only [show (k50).sz=6 from rfl,Nat.mul_one,Nat.add_zero] at hx52_3);have hf52_3:=hfr52 3;(try simp only [show (k50).sz=6 from rfl,Nat.mul_one,Nat.add_zero] at hf52_3);have hx52_4:=hcc52 4 _ rfl;(try simp only [show (k50).sz=6 from rfl,Nat.mul_one,Nat.add_zero] at hx52_4);have hf52_4:=hfr52 4;(try simp only [show (k50).sz=6 from rfl,Nat.mul_one,Nat.add_zero] at hf52_4);have hx52_5:=hcc52 5 _ rfl;(try simp only [show (k50).sz=6 from rfl,Nat.mul_one,Nat.add_zero] at hx52_5);have hf52_5:=hfr52 5;(try simp only [show (k50).sz=6 from rfl,Nat.mul_one,Nat.add_zero] at hf52_5);clear hcl52 hcc52 hfr52 hM52 hoki52 hH52)|((with_reducible refine gate_store (t:=34) (p:=46) rfl ?_);refine store_event (t:=34) (p:=46) (v:=?vo_w53) (w1:=(((((w48.setCell ⟨go36,(Ja:Int).toNat * 6 + 1,none⟩ (I L Od)).setCell ⟨go36,(Ja:Int).toNat * 6 + 2,none⟩ (I L Xd)).setCell ⟨go36,(Ja:Int).toNat * 6 + 3,none⟩ (I L Je)).setCell ⟨go36,(Ja:Int).toNat * 6 + 4,none⟩ (I L Ke)).setCell ⟨go36,(Ja:Int).toNat * 6 + 5,none⟩ (Y Me Xc.length Oe))) ?hg ?ho ?hn ?hr ?_;(case ho=>rfl);(case hg=>rfl);(case hn=>rfl);(case hr=>first|(go_simp;done)|(go_simp;rfl));intro w53 hw;have hg:w48.grownBy w53 (some go36):=(by rw [hw];exact HP52.2);have hp_:Kd.S k50 50 w53 w.heap.size (fun k_=>some k_≠(Y Mc Ob.length Oc:Value).ownBlock) (Y (some ⟨go36,0,none⟩) Jb.length Ud) y433:=(by rw [hw,Ny433.out];exact HP52.1);clear HP52;have n_:=an_ (blk_grown (pk_ Ma.out) hg (Kd.S_ne Ub.out Ma.out (by decide)))<|an_ (blk_grown (pk_ Ka.out) hg (Kd.S_ne Ub.out Ka.out (by decide)))<|an_ (blk_grown (pk_ Ua.out) hg (Kd.S_ne Ub.out Ua.out (by decide)))<|an_ (Kd.R_over' (v:=(Y (some ⟨go36,0,none⟩) Jb.length Ud)) (pR_ Ue.out) (Kd.S_typed Ub.out) (by decide) hg)<|an_ (hp_)<|an_ (blk_grown (pk_ Oa.out) hg (Kd.S_ne Ub.out Oa.out (by decide)))<|D (by rw [hw];exact below_set (below_set (below_set (below_set (below_set (HB.out) GB36.out) GB36.out) GB36.out) GB36.out) GB36.out:Below w.heap.size w w53);clear Ma Ka Ua Ue Ub Oa HB Xb;obtain ⟨Ma,Ka,Ua,Ue,Ub,Oa,HB⟩:=n_;clear hg hw hp_;have Je1:=cells6 Oa.out;have Jg1:=cells6 Ka.out))
       refine bodyPost_ret (results_ctt rfl _ _ Kb 37 #[I L Mb,I L Kc,I L Uc,I L Md,Y Mc Ob.length Oc,Y (some ⟨go36,0,none⟩) Jb.length Ud] (0,0) _ rfl (by exact pP_ Ka.out) Try.underlying37 rfl (by kernel_rfl)) rfl ?_;exact ⟨_,_,er_,by (with_reducible repeat (first|apply Kd.R_alloc|apply Kd.R_drewN|apply Kd.R_drew));exact Kd.R_mono (fr_ (fr_ (fr_ (fr_ (fr_ (fr_ (Kd.R_types Ue.out Ka.out (by decide)) 0 (I L Mb)) 1 (I L Kc)) 2 (I L Uc)) 3 (I L Md)) 4 (Y Mc Ob.length Oc)) 5 (Y (some ⟨go36,0,none⟩) Jb.length Ud)) (fun _ hk=>trivial),by (with_reducible repeat (first|apply Kd.S_alloc|apply Kd.S_drewN|apply Kd.S_drew));exact Kd.S_mono (Kd.S_far (p:=⟨Kb,5,none⟩) (Kd.S_far (p:=⟨Kb,4,none⟩) (Kd.S_far (p:=⟨Kb,3,none⟩) (Kd.S_far (p:=⟨Kb,2,none⟩) (Kd.S_far (p:=⟨Kb,1,none⟩) (Kd.S_far (p:=⟨Kb,0,none⟩) (Kd.S_types Ub.out Ka.out (by decide)) (fun _ hk=>hk.2) (I L Mb)) (fun _ hk=>hk.2) (I L Kc)) (fun _ hk=>hk.2) (I L Uc)) (fun _ hk=>hk.2) (I L Md)) (fun _ hk=>hk.2) (Y Mc Ob.length Oc)) (fun _ hk=>hk.2) (Y (some ⟨go36,0,none⟩) Jb.length Ud)) (fun _ hk=>hk.1),pB_ HB.out⟩
      ·rw [if_neg c35] at H
       exact absurd H (by simp)
     ·rw [if_neg c33] at H
      have c33b0:(Kg == 0)=false:=beq_eq_false_iff_ne.mpr c33;have c33b1:(Kg != 0)=true:=bne_iff_ne.mpr c33;refine rw_ c33b0 ?_;simp only [Option.some.injEq,Prod.mk.injEq] at H;obtain ⟨rfl,rfl,rfl,rfl,rfl,rfl,rfl,rfl⟩:=H;(try have:=Kf.out);(try have:=Jf.out);(try have:=Xe.out);(try have:=Og.out);have Ji1:=cells6 Ka.out
      go_wp2
      refine bodyPost_ret (results_ctt rfl _ _ Kb 37 #[I L 0,I L 0,I L 0,I L 0,Y none 0 0,Y none 0 0] (0,0) _ rfl Z4 Try.underlying37 rfl (by kernel_rfl)) rfl ?_;exact ⟨_,_,er_,by first|exact Kd.R_nil _ _ _ _ _|exact Kd.N_nil _ _ _ _ _|exact Kd.V_nil _ _ _ _ _|exact Kd.Q_nil _ _ _ _ _|exact Kd.S_nil _ _ _ _ _,by first|exact Kd.S_nil _ _ _ _ _|exact Kd.N_nil _ _ _ _ _|exact Kd.V_nil _ _ _ _ _|exact Kd.Q_nil _ _ _ _ _|exact Kd.R_nil _ _ _ _ _,pB_ HB.out⟩
    ·rw [if_neg c21] at H
     exact absurd H (by simp)
   ·rw [if_neg c20] at H
    exact absurd H (by simp)
 ·replace c11 := Bool.eq_false_iff.mpr c11
  subst c11;rw [if_neg (show ¬ (false=true) by decide)] at H;simp only [Option.some.injEq,Prod.mk.injEq] at H;obtain ⟨rfl,rfl,rfl,rfl,rfl,rfl,rfl,rfl⟩:=H;(try have:=Kf.out);(try have:=Jf.out);have Jk1:=cells6 Ka.out
  go_wp2
  refine bodyPost_ret (results_ctt rfl _ _ Kb 37 #[I L 0,I L 0,I L 0,I L 0,Y none 0 0,Y none 0 0] (0,0) _ rfl Z4 Try.underlying37 rfl (by kernel_rfl)) rfl ?_;exact ⟨_,_,er_,by first|exact Kd.R_nil _ _ _ _ _|exact Kd.N_nil _ _ _ _ _|exact Kd.V_nil _ _ _ _ _|exact Kd.Q_nil _ _ _ _ _|exact Kd.S_nil _ _ _ _ _,by first|exact Kd.S_nil _ _ _ _ _|exact Kd.N_nil _ _ _ _ _|exact Kd.V_nil _ _ _ _ _|exact Kd.Q_nil _ _ _ _ _|exact Kd.R_nil _ _ _ _ _,pB_ HB.out⟩

-- NOT PRINTED: function 62 (slices_overlaps_impl_Kid)

-- function 74 is not called

-- function 72 is not called

-- function 63 is not called

/-! ### slices.Insert of one element: function 45, by a walk of its own (its four roads) -/
set_option maxHeartbeats 8000000 in
set_option maxRecDepth 100000 in
theorem insE45_ {w0 W : World} {base n c : Nat} {A : Option Addr} {ok okp : Nat → Prop} {xs : List S67} {p : S67} {cs : List Value} (hp : k67.M W base okp p cs) (hokp : ∀ k, okp k → ok k ∧ some k ≠ (Value.slice A n c).ownBlock) (hfresh : ∀ k, W.heap.size ≤ k → ok k)
    (HO : Kd.R k67 67 W base ok (.slice A n c) xs) (HB0 : Below base w0 W) (hsz : base ≤ W.heap.size) (hl : (xs.length + 1) * 48 ≤ 140737488355328) :
    Calls Try.prog 45 #[.slice A n c, .int .i64 n, .slice (some ⟨W.heap.size, 0, none⟩) 1 1] (W.alloc (.cells cs.toArray 67)) fun r w1 => ∃ v1, r = .returned v1 ∧ Kd.R k67 67 w1 base ok v1 (xs ++ [p]) ∧ Below base w0 w1 ∧ W.grownBy w1 (Value.slice A n c).ownBlock ∧ (v1.ownBlock = (Value.slice A n c).ownBlock ∨ ∃ b, v1.ownBlock = some b ∧ W.heap.size ≤ b) := by
  have hu32 := Try.underlying32
  have hn : n = xs.length := (Kd.R_reads' HO).1
  subst hn
  have hnc : xs.length ≤ c := (Kd.R_reads' HO).2.1
  have HH := Aside0.mk HO
  have HP := Aside0.mk hp
  have HB := Aside0.mk HB0
  have HK := Aside0.mk hokp
  have HF := Aside0.mk hfresh
  clear HO hp HB0 hokp hfresh
  go_enter Try.func45, Try.ntmps45
  cases A with
  | none =>
    go_wp2_with (at_builtin; refine Kd.R_append k67 (w0 := w0) base rfl _ _ 32 67 (.agg #[(I L 0), (I L 0), (.bool false), (I L 0), (I L 0), (I L 0)]) 48 rfl Try.underlying32 info67 rfl (by decide) (by omega) (.slice none xs.length c) xs p cs ok _ rfl rfl HP.out HK.out HF.out HH.out HB.out hsz hl ?_; intro v1 w1 ho hb hg hat)
    all_goals (go_ret; exact ⟨_, rfl, ho, hb, hg, hat⟩)
  | some a =>
    obtain ⟨ab, ao, asp⟩ := a
    go_wp2_with (at_builtin; refine Kd.R_append k67 (w0 := w0) base rfl _ _ 32 67 (.agg #[(I L 0), (I L 0), (.bool false), (I L 0), (I L 0), (I L 0)]) 48 rfl Try.underlying32 info67 rfl (by decide) (by omega) (.slice (some ⟨ab, ao, asp⟩) xs.length c) xs p cs ok _ rfl rfl HP.out HK.out HF.out HH.out HB.out hsz hl ?_; intro v1 w1 ho hb hg hat)
    all_goals (go_ret; exact ⟨_, rfl, ho, hb, hg, hat⟩)
set_option maxHeartbeats 8000000 in
set_option maxRecDepth 100000 in
theorem insS45_ {w0 W : World} {base n c g k : Nat} {ok okp : Nat → Prop} {xs : List S67} {p : S67} {cs : List Value} (hp : k67.M W base okp p cs) (hokp : ∀ k, okp k → ok k ∧ some k ≠ some g) (hfresh : ∀ k, W.heap.size ≤ k → ok k)
    (HO : Kd.R k67 67 W base ok (.slice (some ⟨g, 0, none⟩) n c) xs) (HB0 : Below base w0 W) (hsz : base ≤ W.heap.size) (hk : k < n) (hroom : n + 1 ≤ c) :
    Calls Try.prog 45 #[.slice (some ⟨g, 0, none⟩) n c, .int .i64 k, .slice (some ⟨W.heap.size, 0, none⟩) 1 1] (W.alloc (.cells cs.toArray 67)) fun r w1 => r = .returned (.slice (some ⟨g, 0, none⟩) (n + 1) c) ∧ Kd.R k67 67 w1 base ok (.slice (some ⟨g, 0, none⟩) (n + 1) c) (xs.take k ++ p :: xs.drop k) ∧ Below base w0 w1 ∧ W.grownBy w1 (some g) := by
  have hu32 := Try.underlying32
  have hu67 := Try.underlying67
  have hnx := Aside0.mk (Kd.R_reads' HO).1
  obtain ⟨hok, inner, hown, hr⟩ := HO
  rcases hown.2 with ⟨hv, _⟩ | ⟨g', cap', cur, hv, hb, hh, h0, hcm, hcs, htake⟩
  · cases hv
  injection hv with ha hl_ hc
  injection ha with ha
  injection ha with hg
  subst hg; subst hc
  clear hl_
  have hszz : (k67).sz = 6 := rfl
  have hgl := blk_lt hh
  have hil : inner.length = n * 6 := by rw [hr.1, ← hnx.out, hszz]
  have hcl : cs.length = 6 := k67.K_len (k67.K_of_M hp)
  rw [← hnx.out, hszz] at htake
  rw [hszz] at hcs
  obtain ⟨Wv, hWv⟩ : ∃ Wv, Wv = (W.alloc (.cells cs.toArray 67)).drew := ⟨_, rfl⟩
  have hG0 : W.grownBy Wv none := by rw [hWv]; exact World.grownBy.trans (World.grownBy_alloc W _ none) ⟨rfl, rfl, rfl, Nat.le_refl _, fun _ _ _ => rfl⟩
  have hhv : Wv.heap[g]? = some (.cells cur 67 (0, 0)) := by rw [hG0.block g hgl (by simp), hh]
  have hvb : Wv.heap[W.heap.size]? = some (.cells cs.toArray 67 (0, 0)) := by rw [hWv]; exact heap_alloc_new _ _
  have hsz1 : (Try.prog.info? 67).map (·.size) = some 6 := by kernel_rfl
  have hnl : (inner.drop (k * 6)).length = (n - k) * 6 := by rw [List.length_drop, hil]; omega
  have hone := ones_ hr
  have hcp1 : ∀ ty dc sc, (Builtin.copy_ #[32, 32] ty #[.slice (some ⟨g, (k + 1) * 6, none⟩) (n - k) dc, .slice (some ⟨g, k * 6, none⟩) (n + 1 - k) sc]).run Try.prog Wv = .ok (goInt (Nat.min (n + 1 - k) (n - k))) (Wv.setCells g ((k + 1) * 6) (inner.drop (k * 6))) := fun ty dc sc =>
    copy_run_ Wv _ _ ty 67 g ((k + 1) * 6) _ dc ⟨g, k * 6, none⟩ _ sc 6 (inner.drop (k * 6)) hu32 hsz1 (by rw [hnl, show Nat.min (n + 1 - k) (n - k) = n - k from Nat.min_eq_right (by omega)])
      (fun j v hj => by
        rw [Addr.add_lit, cell_of_row Wv g _ cur 67 (0, 0) hhv, ← Array.getElem?_toList]
        rw [List.getElem?_drop] at hj
        rw [← htake, List.getElem?_take] at hj
        split at hj
        · exact hj
        · cases hj)
      (fun j hj => by rw [cell_of_row Wv g _ cur 67 (0, 0) hhv]; rw [hnl] at hj; simp; omega) (fun j _ => blk_frozen hhv _) (fun v hv => hone v (List.mem_of_mem_drop hv))
  obtain ⟨W1, hW1⟩ : ∃ W1, W1 = Wv.setCells g ((k + 1) * 6) (inner.drop (k * 6)) := ⟨_, rfl⟩
  rw [← hW1] at hcp1
  obtain ⟨c1, h1, h2, _⟩ := setCells_row (inner.drop (k * 6)) ((k + 1) * 6) Wv cur hhv (by rw [hnl, hcs]; omega)
  rw [← hW1] at h1
  have hvb1 : W1.heap[W.heap.size]? = some (.cells cs.toArray 67 (0, 0)) := by rw [hW1, setCells_far _ _ _ (by omega)]; exact hvb
  have hcp2 : ∀ ty dc, (Builtin.copy_ #[32, 32] ty #[.slice (some ⟨g, k * 6, none⟩) (n + 1 - k) dc, .slice (some ⟨W.heap.size, 0, none⟩) 1 1]).run Try.prog W1 = .ok (goInt (Nat.min 1 (n + 1 - k))) (W1.setCells g (k * 6) cs) := fun ty dc =>
    copy_run_ W1 _ _ ty 67 g (k * 6) _ dc ⟨W.heap.size, 0, none⟩ _ 1 6 cs hu32 hsz1 (by rw [hcl, show Nat.min 1 (n + 1 - k) = 1 by simp only [Nat.min_def]; split <;> omega])
      (fun j v hj => by rw [Addr.add_lit, cell_of_row W1 _ _ _ 67 (0, 0) hvb1, Nat.zero_add]; simpa using hj)
      (fun j hj => by rw [cell_of_row W1 g _ c1 67 (0, 0) h1]; simp; omega) (fun j _ => blk_frozen h1 _) (k67.K_one (k67.K_of_M hp))
  obtain ⟨HR, HG⟩ := R_shifted (d := k67) (w1 := W1.setCells g (k * 6) cs) hG0 (Nat.le_of_lt hk) hnx.out hroom hcm hb hgl (hok g (by simp [Value.ownBlock])) (by simpa [Value.ownBlock] using hr) hp hokp hfresh hhv (by rw [hcs]; rfl) (by exact htake) (by rw [hW1]; rfl)
  have HB := HB0.grown HG hsz (fun q hq => by injection hq with hq; omega)
  have HR1 := Aside0.mk HR
  have HG1 := Aside0.mk HG
  have HB1 := Aside0.mk HB
  have hz2 : ¬ ((k : Int) = (n : Int)) := by omega
  have hext : Extern.find Try.f62 = some (Extern.SlicesOverlaps.overlaps #[32, 32] #[4]) := by kernel_rfl
  have hsy : ∀ w, (sizeOf 67).run Try.prog w = .ok 6 w := fun w => by obtain ⟨i0, hi, hs⟩ := Option.map_eq_some_iff.1 hsz1; simp [sizeOf, typeInfo, hi, hs]
  have hsg : (W.alloc (.cells cs.toArray 67)).shape? g = some (67, cur.size) := by unfold World.shape?; rw [show (W.alloc (.cells cs.toArray 67)).heap[g]? = W.heap[g]? from (World.grownBy_alloc W _ none).block g hgl (by simp), hh]
  have hsv : (W.alloc (.cells cs.toArray 67)).shape? W.heap.size = some (67, cs.toArray.size) := by unfold World.shape?; rw [heap_alloc_new]
  have hov : ∀ lb cb, (callFunc 62 #[.slice (some ⟨W.heap.size, 0, none⟩) 1 1, .slice (some ⟨g, (k + 1) * 6, none⟩) lb cb]).run Try.prog (W.alloc (.cells cs.toArray 67)) = .ok (.value (.bool false)) (W.alloc (.cells cs.toArray 67)) := fun lb cb => by
    have h1 := Lib.run_overlaps_apart (P := Try.prog) (W.alloc (.cells cs.toArray 67)) 32 4 67 hu32 6 hsy ⟨W.heap.size, 0, none⟩ ⟨g, (k + 1) * 6, none⟩ 1 1 lb cb (fun h => Nat.ne_of_gt hgl h) 67 67 cs.toArray.size cur.size hsv hsg (by omega) (blk_frozen (heap_alloc_new _ _) 0) (blk_frozen (heap_alloc_new _ _) cs.toArray.size)
    have h2 := run_callFunc_extern Try.func62 (by kernel_rfl) (by kernel_rfl) (by kernel_rfl) hext #[.slice (some ⟨W.heap.size, 0, none⟩) 1 1, .slice (some ⟨g, (k + 1) * 6, none⟩) lb cb] (W.alloc (.cells cs.toArray 67))
    rw [h1] at h2
    exact h2
  have hkn : k ≤ n := by omega
  have hc63 : c ≤ 9223372036854775807 := by unfold maxLen at hcm; omega
  have hwr : ∀ x : Int, (x = (k : Int) + 1 ∨ x = (n : Int) + 1) → wrap64 x = x := by rintro x (rfl | rfl) <;> (unfold wrap64; omega)
  have hwi : IntKind.i64.wrap ((k : Int) + 1) = (k : Int) + 1 := by rw [IntKind.wrap_i64]; omega
  have htn : ((k : Int) + 1).toNat = k + 1 := by omega
  have hb5 : (k : Int) + 1 ≤ (n : Int) + 1 := by omega
  have hw3 : ¬ ((c : Int) < (n : Int) + 1) := by omega
  have hb0 : (0 : Int) ≤ (n : Int) + 1 := by omega
  have hb1 : (0 : Int) ≤ (k : Int) + 1 := by omega
  have hb3 : (k : Int) ≤ (n : Int) + 1 := by omega
  have hb2 : ¬ (c = k + 1) := by omega
  have hb4 : ¬ (c = k) := by omega
  subst hWv
  clear hW1 h1 h2 hvb1 HR HG HB hone hnl hil hcl htake hcs hhv hvb hG0 hh hr hown hok hp hokp hfresh
  go_enter Try.func45, Try.ntmps45
  go_wp2_with (simp only [hov])
  go_region_law ((refine copyS_ rfl _ _ 32 32 rfl (.slice (some ⟨g, (k + 1) * 6, none⟩) (n - k) (c - (k + 1))) (.slice (some ⟨g, k * 6, none⟩) (n + 1 - k) (c - k)) (by simp [Act.eval, Act.put]) (by simp [Act.eval, Act.put]) (hcp1 _ _ _) ?_))
  go_wp2_with (at_builtin; refine copyL_ _ rfl _ _ 32 32 rfl _ _ rfl rfl (hcp2 _ _) ?_)
  go_ret
  exact ⟨rfl, HR1.out, HB1.out, HG1.out⟩
set_option maxHeartbeats 8000000 in
set_option maxRecDepth 100000 in
theorem insG45_ {w0 W : World} {base n c g k : Nat} {ok okp : Nat → Prop} {xs : List S67} {p : S67} {cs : List Value} (hp : k67.M W base okp p cs) (hokp : ∀ k, okp k → ok k ∧ some k ≠ (Value.slice (some ⟨g, 0, none⟩) n c).ownBlock) (hfresh : ∀ k, W.heap.size ≤ k → ok k)
    (HO : Kd.R k67 67 W base ok (.slice (some ⟨g, 0, none⟩) n c) xs) (HB0 : Below base w0 W) (hsz : base ≤ W.heap.size) (hk : k < n) (hroom : c < n + 1) (hl : (n + 1) * 48 ≤ 140737488355328) :
    Calls Try.prog 45 #[.slice (some ⟨g, 0, none⟩) n c, .int .i64 k, .slice (some ⟨W.heap.size, 0, none⟩) 1 1] (W.alloc (.cells cs.toArray 67)) fun r w1 => ∃ v1, r = .returned v1 ∧ Kd.R k67 67 w1 base ok v1 (xs.take k ++ p :: xs.drop k) ∧ Below base w0 w1 ∧ W.grownBy w1 (Value.slice (some ⟨g, 0, none⟩) n c).ownBlock ∧ (v1.ownBlock = (Value.slice (some ⟨g, 0, none⟩) n c).ownBlock ∨ ∃ b, v1.ownBlock = some b ∧ W.heap.size ≤ b) := by
  have hu32 := Try.underlying32
  have hnx := Aside0.mk (Kd.R_reads' HO).1
  have hnc : n ≤ c := (Kd.R_reads' HO).2.1
  have hgb := Kd.R_base HO
  obtain ⟨hok, inner, hown, hr⟩ := HO
  rcases hown.2 with ⟨hv, _⟩ | ⟨g', cap', cur, hv, hb, hh, h0, hcm, hcs, htake⟩
  · cases hv
  injection hv with ha hl_ hc
  injection ha with ha
  injection ha with hg
  subst hg; subst hc
  clear hl_ h0
  have hszz : (k67).sz = 6 := rfl
  have hgl := blk_lt hh
  have hil : inner.length = n * 6 := by rw [hr.1, ← hnx.out, hszz]
  have hcl : cs.length = 6 := k67.K_len (k67.K_of_M hp)
  rw [← hnx.out, hszz] at htake
  rw [hszz] at hcs
  obtain ⟨i0, hi0, hzz⟩ := Option.map_eq_some_iff.1 info67
  simp only [Prod.mk.injEq] at hzz
  obtain ⟨hz0, hz1, hz2⟩ := hzz
  have hsz1 : (Try.prog.info? 67).map (·.size) = some 6 := by rw [hi0]; simp [hz1]
  have hone := ones_ hr
  have hcell : ∀ (w : World), w.heap[g]? = some (.cells cur 67 (0, 0)) → ∀ (o : Nat) (l : List Value) (m : Nat), l = (inner.drop o).take m → ∀ j v, l[j]? = some v → w.cell? ((⟨g, o, none⟩ : Addr).add j) = some v := fun w hw o l m hl j v hj => by
    subst hl
    rw [List.getElem?_take] at hj
    split at hj
    · rw [Addr.add_lit, cell_of_row w g _ cur 67 (0, 0) hw, ← Array.getElem?_toList]
      rw [List.getElem?_drop, ← htake, List.getElem?_take] at hj
      split at hj
      · exact hj
      · cases hj
    · cases hj
  obtain ⟨Wa, hWa⟩ : ∃ Wa, Wa = W.alloc (.cells cs.toArray 67) := ⟨_, rfl⟩
  have hGa : W.grownBy Wa none := by rw [hWa]; exact World.grownBy_alloc W _ none
  have hha : Wa.heap[g]? = some (.cells cur 67 (0, 0)) := by rw [hGa.block g hgl (by simp), hh]
  have hva : Wa.heap[W.heap.size]? = some (.cells cs.toArray 67 (0, 0)) := by rw [hWa]; exact heap_alloc_new _ _
  have hNa : Wa.heap.size = W.heap.size + 1 := by rw [hWa]; simp [World.alloc_eq]
  have hold : (Builtin.firstCells i0.size k (.slice (some ⟨g, 0, none⟩) k c)).run Try.prog Wa.drew = .ok (inner.take (k * 6)).toArray Wa.drew := by
    rw [hz1]
    exact run_firstCells_some Wa.drew 6 k ⟨g, 0, none⟩ k c (inner.take (k * 6)) (by rw [List.length_take, hil]; omega) (hcell Wa.drew hha 0 _ (k * 6) (by rw [List.drop_zero]))
  have hkk : (n : Int) + 1 - (k : Int) = ((n + 1 - k : Nat) : Int) := by omega
  have hik : k + (n + 1 - k) = n + 1 := by omega
  obtain ⟨G, hG⟩ : ∃ G, G = grownCap Wa (n + 1) c 67 := ⟨_, rfl⟩
  obtain ⟨ROW, hROW⟩ : ∃ ROW : Array Value, ROW = (inner.take (k * 6)).toArray ++ Builtin.zeroCells ((.agg #[(I L 0), (I L 0), (.bool false), (I L 0), (I L 0), (I L 0)]) : Value).cells (n + 1 - k) ++ Builtin.zeroCells ((.agg #[(I L 0), (I L 0), (.bool false), (I L 0), (I L 0), (I L 0)]) : Value).cells (G - (n + 1)) := ⟨_, rfl⟩
  obtain ⟨W1, hW1⟩ : ∃ W1, W1 = Wa.drew.alloc (.cells ROW 67) := ⟨_, rfl⟩
  obtain ⟨N, hN⟩ : ∃ N, N = Wa.heap.size := ⟨_, rfl⟩
  have hrz : ∀ ty, (Builtin.append_ #[32, 3] ty #[.slice (some ⟨g, 0, none⟩) k c, .int .i64 ((n : Int) + 1 - (k : Int))]).run Try.prog Wa = .ok (.slice (some ⟨N, 0, none⟩) (n + 1) G) W1 := fun ty => by
    have h := Lib.run_append_grow_zeros Wa 32 3 ty 67 i0 _ .i64 .i64 hu32 Try.underlying3 hi0 hz0 (some ⟨g, 0, none⟩) k c (inner.take (k * 6)) hold (n + 1 - k) (by omega) (by omega) (by omega) (by omega) (by rw [hz2]; omega) (by rw [hz2, hik]; exact growslice_fits hroom hl)
    rw [hik] at h
    rw [hkk, h, hN, hW1, hROW, hG]
  have hGn : n + 1 ≤ G := by rw [hG]; exact grownCap_ge _ _ _ _
  have hGm : G ≤ maxLen := by rw [hG]; exact grownCap_le_maxLen _ _ _ _ (by unfold maxLen; omega)
  have hG63 : G ≤ 9223372036854775807 := by unfold maxLen at hGm; omega
  have hzs : ((.agg #[(I L 0), (I L 0), (.bool false), (I L 0), (I L 0), (I L 0)]) : Value).cells.size = 6 := by rfl
  have hRs : ROW.size = G * 6 := by
    rw [hROW]
    simp only [Array.size_append, List.size_toArray, List.length_take, hil, size_zeroCells, hzs]
    omega
  have hRt : ROW.toList.take (k * 6) = inner.take (k * 6) := by
    rw [hROW]
    simp only [Array.toList_append, List.append_assoc]
    exact List.take_left' (by rw [List.length_take, hil]; omega)
  have hG1 : W.grownBy W1 none := by rw [hW1]; exact hGa.trans (World.grownBy.trans (show Wa.grownBy Wa.drew none from ⟨rfl, rfl, rfl, Nat.le_refl _, fun _ _ _ => rfl⟩) (World.grownBy_alloc _ _ none))
  have hh1 : W1.heap[N]? = some (.cells ROW 67 (0, 0)) := by rw [hW1, hN]; exact heap_alloc_new Wa.drew _
  have hg1 : W1.heap[g]? = some (.cells cur 67 (0, 0)) := by rw [hG1.block g hgl (by simp), hh]
  have hv1 : W1.heap[W.heap.size]? = some (.cells cs.toArray 67 (0, 0)) := by rw [hW1, heap_alloc_old Wa.drew _ (show _ < Wa.heap.size by omega)]; exact hva
  obtain ⟨W2, hW2⟩ : ∃ W2, W2 = W1.setCells N (k * 6) cs := ⟨_, rfl⟩
  have hcpA : ∀ ty dc, (Builtin.copy_ #[32, 32] ty #[.slice (some ⟨N, k * 6, none⟩) (n + 1 - k) dc, .slice (some ⟨W.heap.size, 0, none⟩) 1 1]).run Try.prog W1 = .ok (goInt (Nat.min 1 (n + 1 - k))) W2 := fun ty dc => by
    rw [hW2]
    exact copy_run_ W1 _ _ ty 67 N (k * 6) _ dc ⟨W.heap.size, 0, none⟩ _ 1 6 cs hu32 hsz1 (by rw [hcl, show Nat.min 1 (n + 1 - k) = 1 by simp only [Nat.min_def]; split <;> omega])
      (fun j v hj => by rw [Addr.add_lit, cell_of_row W1 _ _ _ 67 (0, 0) hv1, Nat.zero_add]; simpa using hj)
      (fun j hj => by rw [cell_of_row W1 N _ ROW 67 (0, 0) hh1]; simp; omega) (fun j _ => blk_frozen hh1 _) (k67.K_one (k67.K_of_M hp))
  obtain ⟨c1, h1, h2, _⟩ := setCells_row cs (k * 6) W1 ROW hh1 (by omega)
  rw [← hW2] at h1
  have hg2 : W2.heap[g]? = some (.cells cur 67 (0, 0)) := by rw [hW2, setCells_far _ _ _ (by omega)]; exact hg1
  have hnl : (inner.drop (k * 6)).length = (n - k) * 6 := by rw [List.length_drop, hil]; omega
  obtain ⟨W3, hW3⟩ : ∃ W3, W3 = W2.drew.setCells N ((k + 1) * 6) (inner.drop (k * 6)) := ⟨_, rfl⟩
  have hcpB : ∀ ty dc sc, (Builtin.copy_ #[32, 32] ty #[.slice (some ⟨N, (k + 1) * 6, none⟩) (n - k) dc, .slice (some ⟨g, k * 6, none⟩) (n - k) sc]).run Try.prog W2.drew = .ok (goInt (Nat.min (n - k) (n - k))) W3 := fun ty dc sc => by
    rw [hW3]
    exact copy_run_ W2.drew _ _ ty 67 N ((k + 1) * 6) _ dc ⟨g, k * 6, none⟩ _ sc 6 (inner.drop (k * 6)) hu32 hsz1 (by rw [hnl, show Nat.min (n - k) (n - k) = n - k from Nat.min_self _])
      (hcell W2.drew hg2 (k * 6) _ (inner.drop (k * 6)).length (by rw [List.take_length]))
      (fun j hj => by rw [cell_of_row W2.drew N _ c1 67 (0, 0) h1]; rw [hnl] at hj; simp; omega) (fun j _ => blk_frozen (w := W2.drew) h1 _) (fun v hv => hone v (List.mem_of_mem_drop hv))
  obtain ⟨HR, HG⟩ := R_moved (d := k67) (e := 67) (base := base) (Wv := W1.drew) (w1 := W3) (N := N) (row := ROW) (v := .slice (some ⟨g, 0, none⟩) n c) (hG1.trans ⟨rfl, rfl, rfl, Nat.le_refl _, fun _ _ _ => rfl⟩) (by omega) (by omega) (Nat.le_of_lt hk) hnx.out hGn hGm hok hr hp hokp hfresh hh1 (by rw [hRs]; rfl) (by exact hRt) (by rw [hW3, hW2, drew_setC]; rfl)
  have HB := HB0.grown HG hsz hgb
  have HR1 := Aside0.mk HR
  have HG1 := Aside0.mk HG
  have HB1 := Aside0.mk HB
  have HN : Aside0 (W.heap.size ≤ N) := ⟨by omega⟩
  have hz3 : (c : Int) < (n : Int) + 1 := by omega
  have hz2_ : ¬ ((k : Int) = (n : Int)) := by omega
  have hkn : k ≤ n := by omega
  have hc63 : c ≤ 9223372036854775807 := by unfold maxLen at hcm; omega
  have hwr : ∀ x : Int, (x = (k : Int) + 1 ∨ x = (n : Int) + 1 ∨ x = (n : Int) + 1 - k) → wrap64 x = x := by rintro x (rfl | rfl | rfl) <;> (unfold wrap64; omega)
  have hwi : IntKind.i64.wrap ((k : Int) + 1) = (k : Int) + 1 := by rw [IntKind.wrap_i64]; omega
  have htn : ((k : Int) + 1).toNat = k + 1 := by omega
  have hb0 : (0 : Int) ≤ (n : Int) + 1 := by omega
  have hb1 : (0 : Int) ≤ (k : Int) + 1 := by omega
  have hb3 : (k : Int) ≤ (n : Int) + 1 := by omega
  have hb5 : (k : Int) + 1 ≤ (n : Int) + 1 := by omega
  have hci : ¬ (c = k) := by omega
  have hGi : ¬ (G = k) := by omega
  have hGim : ¬ (G = k + 1) := by omega
  subst hWa
  clear hW1 hW2 hW3 hN hG hROW h1 h2 hRs hRt hh1 hg1 hv1 hg2 hG1 hGa hha hva hNa hold hkk hik hcell HR HG HB hone hnl hil hcl htake hcs hh hr hown hok hp hokp hfresh hGm hcm hzs
  go_enter Try.func45, Try.ntmps45
  go_wp2_with (first
    | (at_builtin; refine Lib.wpList_append_run _ rfl _ _ _ _ rfl _ _ rfl rfl _ _ (hrz _) ?_)
    | (at_builtin; refine copyL_ _ rfl _ _ 32 32 rfl _ _ rfl rfl (hcpA _ _) ?_))
  go_region_law ((refine copyS_ rfl _ _ 32 32 rfl (.slice (some ⟨N, (k + 1) * 6, none⟩) (n - k) (G - (k + 1))) (.slice (some ⟨g, k * 6, none⟩) (n - k) (c - k)) (by simp [Act.eval, Act.put]) (by simp [Act.eval, Act.put]) (hcpB _ _ _) ?_))
  go_wp2
  go_ret
  exact ⟨_, rfl, HR1.out, HB1.out, HG1.out, .inr ⟨N, by simp [Value.ownBlock], HN.out⟩⟩
theorem ins45_ {w0 W : World} {base : Nat} {v : Value} {ok okp : Nat → Prop} {xs : List S67} {p : S67} {cs : List Value} {i : Int} {vb : Nat} (hvb : vb = W.heap.size) (hp : k67.M W base okp p cs) (hokp : ∀ k, okp k → ok k ∧ some k ≠ v.ownBlock) (hfresh : ∀ k, W.heap.size ≤ k → ok k)
    (HO : Kd.R k67 67 W base ok v xs) (HB0 : Below base w0 W) (hsz : base ≤ W.heap.size) (hl : (xs.length + 1) * 48 ≤ 140737488355328) (hi : 0 ≤ i) (hin : i ≤ (xs.length : Int)) :
    Calls Try.prog 45 #[v, .int .i64 i, .slice (some ⟨vb, 0, none⟩) 1 1] (W.alloc (.cells cs.toArray 67)) fun r w1 => ∃ v1, r = .returned v1 ∧ Kd.R k67 67 w1 base ok v1 (xs.take i.toNat ++ ([p] ++ xs.drop i.toNat)) ∧ Below base w0 w1 ∧ W.grownBy w1 v.ownBlock ∧ (v1.ownBlock = v.ownBlock ∨ ∃ b, v1.ownBlock = some b ∧ W.heap.size ≤ b) := by
  subst hvb
  obtain ⟨A, c, rfl⟩ := Kd.R_slice HO
  obtain ⟨n, hn⟩ : ∃ n, n = xs.length := ⟨_, rfl⟩
  rw [← hn] at HO hin hokp ⊢
  obtain ⟨k, rfl⟩ : ∃ k : Nat, i = k := ⟨i.toNat, by omega⟩
  rw [Int.toNat_natCast]
  show Calls Try.prog 45 #[.slice A n c, .int .i64 k, .slice (some ⟨W.heap.size, 0, none⟩) 1 1] (W.alloc (.cells cs.toArray 67)) fun r w1 => ∃ v1, r = .returned v1 ∧ Kd.R k67 67 w1 base ok v1 (xs.take k ++ p :: xs.drop k) ∧ _
  by_cases hke : k = n
  · subst hke
    rw [show xs.take k ++ p :: xs.drop k = xs ++ [p] by rw [hn, List.take_length, List.drop_length]]
    exact insE45_ hp hokp hfresh HO HB0 hsz hl
  · have hk : k < n := by omega
    obtain ⟨g, cap, ev, _⟩ := Kd.R_form HO (by omega)
    injection ev with ea en ec
    subst ea
    by_cases hr : n + 1 ≤ c
    · exact (insS45_ hp (by simpa [Value.ownBlock] using hokp) hfresh HO HB0 hsz hk hr).mono fun e w' ⟨h1, h2, h3, h4⟩ => ⟨_, h1, h2, h3, by simpa [Value.ownBlock] using h4, .inl (by simp [Value.ownBlock])⟩
    · exact insG45_ hp hokp hfresh HO HB0 hsz hk (by omega) (by rw [hn]; exact hl)


end Go.Proofs.Ytjfknflhajeglaa.PFnExactTreeFlow
