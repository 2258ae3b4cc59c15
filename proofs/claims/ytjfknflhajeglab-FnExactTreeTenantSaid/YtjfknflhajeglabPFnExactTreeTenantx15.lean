-- by a program of this session's, over the kit's words
import Derived.Test.YtjfknflhajeglabPZFnExactTreeTenant
import Derived.Test.YtjfknflhajeglabPFnExactTreeTenantx0
import Derived.Test.YtjfknflhajeglabPFnExactTreeTenantx10
import Derived.Test.YtjfknflhajeglabPFnExactTreeTenantx12
import Derived.Test.YtjfknflhajeglabPFnExactTreeTenantx14
namespace Go.Proofs.Ytjfknflhajeglab.PFnExactTreeTenant
open Go.RowKit Go.Proofs.YtjfknflhajeglabW.PrintWords Go.Proofs.YtjfknflhajeglabW.PrintLast Go.Proofs.YtjfknflhajeglabW.PrintMore Go.Proofs.YtjfknflhajeglabV Go.Proofs.Ytjfknflhajeglab.ZFnExactTreeTenant
open Go.Value renaming int → I, slice → Y
open Go.IntKind renaming i64 → L
open Aside0 renaming mk → D
open Option renaming bind_eq_some_iff → bs_
attribute [local go_sem] max2_int min2_int max_two min_two max_three min_three max_four min_four   -- for this text's walks alone
set_option linter.unusedVariables false
set_option linter.unusedSimpArgs false

/-! ### slices_Clone_impl_Kid_impl_Kid: function 67 -/
def slices_Clone_impl_Kid_impl_Kid.f (l0 : List (S51)) : Option ((List (S51))) := (some (([] : List (S51)) : List (S51))).bind fun y394 => (if y394.length + l0.length < 2932031007402 then (some (y394 ++ l0)) else (none))
set_option maxHeartbeats 8000000 in
set_option maxRecDepth 100000 in
theorem slices_Clone_impl_Kid_impl_Kid.calls (A0 : Option Addr) (c0 : Nat) (l0 r : List (S51)) (w : World) (hr0 : Kd.C k51 w A0 l0.length l0) (hc0 : l0.length ≤ c0) (h : slices_Clone_impl_Kid_impl_Kid.f l0 = some r) :
  Calls Try.prog 67 #[Y A0 l0.length c0] w fun e w' => ∃ v0_ : Value, e = .returned (v0_) ∧ Kd.R k51 51 w' w.heap.size (fun _ => True) v0_ r ∧ Below w.heap.size w w' := by
 have HR0 := D hr0
 have HC0 := D hc0
 clear hr0 hc0
 have HB := D (Below.refl w.heap.size w)
 have H : ((some (([] : List (S51)) : List (S51))).bind fun y394 => (if y394.length + l0.length < 2932031007402 then (some (y394 ++ l0)) else (none))) = some r := h
 clear h
 by_cases hA_ : A0 = none
 ·subst hA_
  have hl_ := List.length_eq_zero_iff.1 (nil_len HR0.out); subst hl_
  have H : some ([] : List (S51)) = some r := by simpa using H
  obtain rfl := Option.some.inj H; go_enter Try.func67, Try.ntmps67
  go_wp2_with (first|((with_reducible refine gate_dst (N:=4) rfl ?_);refine isnil_event ?hg (N:=4) ?hd (t:=32) (u:=32) (e:=51) (x:=.tmp 3) (y:=.const (Y none 0 0)) ?ho (A:=none) (n:=0) (c:=c0) (m:=0) (q:=0) ?hx ?hy Try.underlying32 (b:=true) rfl ?_;(case hd=>rfl);(case hg=>rfl);(case ho=>rfl);(case hx=>rfl);(case hy=>rfl)))
  go_ret;exact ⟨_,er_,by first|exact Kd.R_nil _ _ _ _ _|exact Kd.N_nil _ _ _ _ _|exact Kd.V_nil _ _ _ _ _|exact Kd.Q_nil _ _ _ _ _|exact Kd.S_nil _ _ _ _ _,pB_ HB.out⟩
 ·have hA1_ := none_no hA_
  obtain ⟨y394, hy394⟩ : ∃ y_ : List (S51), y_ = (([] : List (S51))) := ⟨_, rfl⟩
  replace H:(if y394.length + l0.length < 2932031007402 then (some (y394 ++ l0)) else (none))=some r:=by first|(rw [hy394];with_reducible exact H)|(have H2_:=(Option.bind_some _ _).symm.trans H;rw [hy394];with_reducible exact H2_)|(have H2_:=(Option.bind_some _ _).symm.trans H;with_reducible exact H2_)|with_reducible exact H|(rw [hy394];exact H)|exact H
  have Ny394 := D hy394; clear hy394
  by_cases c2 : y394.length + l0.length < 2932031007402
  ·rw [if_pos c2] at H
   have LMc2 := D c2; clear c2; obtain ⟨y397, hy397⟩ : ∃ y_ : List (S51), y_ = (y394 ++ l0) := ⟨_, rfl⟩
   replace H:(some y397)=some r:=by first|(rw [hy397];with_reducible exact H)|(have H2_:=(Option.bind_some _ _).symm.trans H;rw [hy397];with_reducible exact H2_)|(have H2_:=(Option.bind_some _ _).symm.trans H;with_reducible exact H2_)|with_reducible exact H|(rw [hy397];exact H)|exact H
   have Ny397 := D hy397; clear hy397; obtain rfl := Option.some.inj H; go_enter Try.func67, Try.ntmps67
   go_wp2_with (first|((with_reducible refine gate_dst (N:=4) rfl ?_);refine isnil_event ?hg (N:=4) ?hd (t:=32) (u:=32) (e:=51) (x:=.tmp 3) (y:=.const (Y none 0 0)) ?ho (A:=A0) (n:=l0.length) (c:=c0) (m:=0) (q:=0) ?hx ?hy Try.underlying32 (b:=false) hA1_ ?_;(case hd=>rfl);(case hg=>rfl);(case ho=>rfl);(case hx=>rfl);(case hy=>rfl))|((with_reducible refine gate_dst (N:=5) rfl ?_);refine Kd.R_lit k51 _ 51 ?hg (N:=5) ?hd (xs:=([]:List (S51))) (inner:=[]) (ok:=fun _=>True) (okp:=fun _=>True) ?hr ?hp (fun _ hk=>hk) trivial (Below.refl _ _) (Nat.le_refl _) (by simp) ?_;(case hd=>rfl);(case hg=>rfl);(case hr=>first|(go_simp;done)|(go_simp;rfl));(case hp=>exact (Reps.none _ _));intro v395 w3 ho4 hb hg_ hnew_;clear hg_ hnew_;(first|rw [← Ny394.out] at ho4|(simp only [Int.reduceToNat] at ho4;rw [← Ny394.out] at ho4));have n_:=an_ (Kd.R_lower ho4 (below_size (pB_ HB.out)))<|D (below_step (pB_ HB.out) hb);clear HB;obtain ⟨HO396,HB⟩:=n_;clear hb ho4)|((with_reducible refine gate_builtin (b:=.append) (xs:=#[.tmp 5,.tmp 6]) rfl ?_);at_builtin;refine Kd.R_append_rows k51 (w0:=w) w.heap.size rfl (.tmp 5) (.tmp 6) 32 51 (.agg #[(I L 0),(I L 0),(.bool false),(I L 0),(I L 0),(I L 0)]) 48 rfl Try.underlying32 info51 rfl (by decide) (by omega) v395 y394 l0 _ _ _ (fun _=>True) (fun _=>False) rfl rfl ?aO ?aR (fun _ _ h=>h) (fun _ h=>h.elim) ?aF ?aB ?aS ?aL ?_;(case aR=>exact pC_ (Kd.C_below HR0.out HB.out));(case aB=>exact (pB_ HB.out));(case aF=>exact (fun _ _=>trivial));(case aO=>exact (pR_ HO396.out));(case aS=>exact (below_size (pB_ HB.out)));(case aL=>have:=LMc2.out;omega);intro v398 w5 ho hb hg hat;rw [← Ny397.out] at ho;have n_:=an_ (hb)<|D (ho);clear HB HO396;obtain ⟨HB,HO399⟩:=n_;clear ho hb hg hat))
   go_ret;exact ⟨_,er_,by (with_reducible repeat (first|apply Kd.R_alloc|apply Kd.R_drewN|apply Kd.R_drew));exact HO399.out,pB_ HB.out⟩
  ·rw [if_neg c2] at H
   exact absurd H (by simp)

/-! ### impl_copyFair: function 47 -/
def impl_copyFair.f (a0_0 a0_1 a0_2 a0_3 : Int) (l0_4 : List (S51)) : Option (Int × Int × Int × Int × (List (S51))) := (slices_Clone_impl_Kid_impl_Kid.f l0_4).bind fun t402 => (some (a0_0, a0_1, a0_2, a0_3, t402))
def impl_copyFair.T1 : Bool × List (List Nat × List Nat) := (true, [([], []), ([0], [0]), ([], []), ([2], [2]), ([], []), ([4], [4]), ([5], [5]), ([1, 3, 6], [1, 3, 6]), ([7, 6, 0, 1, 2, 3, 4, 5, 6, 7], [7])])
def impl_copyFair.B1 : List Nat := [0, 1, 0, 4, 0, 16, 48, 127, 255]
theorem impl_copyFair.tab1 : rtab .any (opsOf Try.f47 1) = impl_copyFair.T1 := by kernel_rfl
theorem impl_copyFair.bits1 : waitsOk impl_copyFair.T1.2 impl_copyFair.B1 = true := by kernel_rfl
set_option maxHeartbeats 8000000 in
set_option maxRecDepth 100000 in
theorem impl_copyFair.calls (a0_0 a0_1 a0_2 a0_3 : Int) (A0_4 : Option Addr) (c0_4 : Nat) (l0_4 : List (S51)) (r1 r2 r3 r4 : Int) (r5 : List (S51)) (w : World) (hr0_4 : Kd.C k51 w A0_4 l0_4.length l0_4) (hc0_4 : l0_4.length ≤ c0_4) (h : impl_copyFair.f a0_0 a0_1 a0_2 a0_3 l0_4 = some (r1, r2, r3, r4, r5)) :
  Calls Try.prog 47 #[.agg #[I L a0_0,I L a0_1,I L a0_2,I L a0_3,Y A0_4 l0_4.length c0_4]] w fun e w'=>∃ v4_:Value,e=.returned (.agg #[I L r1,I L r2,I L r3,I L r4,v4_])∧Kd.R k51 51 w' w.heap.size (fun _=>True) v4_ r5∧Below w.heap.size w w':=by
 have hu34 := Try.underlying34
 have hu31 := Try.underlying31
 have HR0_4 := D hr0_4
 have HC0_4 := D hc0_4
 clear hr0_4 hc0_4
 have HB := D (Below.refl w.heap.size w)
 have H : ((slices_Clone_impl_Kid_impl_Kid.f l0_4).bind fun t402 => (some (a0_0, a0_1, a0_2, a0_3, t402))) = some (r1, r2, r3, r4, r5) := h
 clear h
 obtain ⟨t402, A20, H⟩ := bs_.mp H
 (try dsimp only at H)
 have A2 := D A20
 clear A20
 simp only [Option.some.injEq, Prod.mk.injEq] at H
 obtain ⟨rfl, rfl, rfl, rfl, rfl⟩ := H
 go_enter Try.func47, Try.ntmps47
 try go_wp2_with (first|((with_reducible refine gate_dst (N:=1) rfl ?_);refine bx_ (N:=1) (cs:=#[I L a0_0,I L a0_1,I L a0_2,I L a0_3,Y A0_4 l0_4.length c0_4]) (t:=34) ?_;intro gb400 hg w3 hbox hb;have n_:=an_ (below_step (pB_ HB.out) hb)<|an_ (hbox)<|an_ (bg_ hg (pB_ HB.out):w.heap.size≤gb400)<|D (bg_ hg (pB_ HB.out):w.heap.size≤gb400);clear HB;obtain ⟨HB,BK400,GW400,GE400⟩:=n_;clear hb hbox hg)|((with_reducible refine gate_dst (N:=2) rfl ?_);refine bx_ (N:=2) (cs:=#[I L 0,I L 0,I L 0,I L 0,Y none 0 0]) (t:=34) ?_;intro gb401 hg w4 hbox hb;have n_:=an_ (blk_below (pk_ BK400.out) hb)<|an_ (below_step (pB_ HB.out) hb)<|an_ (hbox)<|an_ (bg_ hg (pB_ HB.out):w.heap.size≤gb401)<|an_ (bg_ hg (pB_ HB.out):w.heap.size≤gb401)<|an_ (nl_ hg (pk_ BK400.out):gb400≠gb401)<|D (by rw [hg];exact Nat.ne_of_gt (blk_lt (pk_ BK400.out)):gb401≠gb400);clear BK400 HB;obtain ⟨BK400,HB,BK401,GW401,GE401,NB400_401,NB401_400⟩:=n_;clear hb hbox hg))
 have n_ := an_ (blk_drew BK400.out) <| an_ (blk_drew BK401.out) <| D (below_drew1 HB.out)
 clear BK400 BK401 HB
 obtain ⟨BK400, BK401, HB⟩ := n_
 refine start_ (n:=9) (S:=fun w'=>w'.cell? ⟨gb400,0,none⟩=some (I L a0_0)∧w'.cell? ⟨gb400,1,none⟩=some (I L a0_1)∧w'.cell? ⟨gb400,2,none⟩=some (I L a0_2)∧w'.cell? ⟨gb400,3,none⟩=some (I L a0_3)∧w'.cell? ⟨gb400,4,none⟩=some (Y A0_4 l0_4.length c0_4)) (ds:=[]) (bz 9 0) (by kernel_rfl) rfl (by kernel_rfl) (be5_ BK400.out) (fun hHeld=>?_);refine with_tabW impl_copyFair.tab1 impl_copyFair.bits1 (fun HT_ HW_=>?_)
 generalize w4.drew = w5 at BK400 BK401 HB hHeld ⊢
 refine pb_ 0 ?_
 refine pb_ 2 ?_
 refine pb_ 4 ?_
 refine tb_ 1 rfl rfl hHeld Z50 ?_
 refine tb_ 3 rfl rfl hHeld Z50 ?_
 refine tb_ 5 rfl rfl hHeld Z50 ?_
 refine oa_ 6 9 9 127 HT_ (fun K hK => ?_)
 refine goes_ Try.func67 (by kernel_rfl) rfl #[Y A0_4 l0_4.length c0_4] (by rfl) rfl rfl Z21 ?_
 with_reducible refine (slices_Clone_impl_Kid_impl_Kid.calls _ _ l0_4 t402 _ ?side1 ?side2 A2.out).mono ?_
 (case side1 => exact pC_ (Kd.C_below HR0_4.out HB.out))
 (case side2 => exact HC0_4.out)
 rintro e w6 ⟨v403, rfl, ho0, hb⟩
 refine ⟨_, rfl, ?_⟩
 have n_ := an_ (Kd.R_lower ho0 (below_size (pB_ HB.out))) <| an_ (blk_below (pk_ BK400.out) hb) <| an_ (blk_below (pk_ BK401.out) hb) <| D (below_step (pB_ HB.out) hb)
 clear BK400 BK401 HB
 obtain ⟨HO404, BK400, BK401, HB⟩ := n_
 (try clear hb)
 (try clear hb2)
 (try clear hk)
 (try clear hi)
 (try clear ho0)
 obtain ⟨Ao7, co7, eo7⟩ := Kd.R_slice HO404.out
 (first | subst eo7 | obtain ⟨rfl, rfl⟩ := sl_inj eo7)
 refine hK.out _ _ (be5_ BK400.out) (fun hHeld=>?_)
 clear hK K
 refine nx_ (N := some 9) ?_
 refine pb_ 7 ?_
 refine one_ (i := 8) (N := none) (bz 9 511) rfl rfl (one_of HT_.out (by kernel_rfl)) (by decide) (fun K hK => ?_)
 have hs8 : w6.cell? ⟨gb401, 0, none⟩ = some (I L 0) := (bc_ BK401.out 0)
 have hfs8 := blk_frozen BK401.out 0
 have hns8_0 := NB400_401.out
 have hms8_0 := NB401_400.out
 have hs9 : w6.cell? ⟨gb401, 1, none⟩ = some (I L 0) := (bc_ BK401.out 1)
 have hfs9 := blk_frozen BK401.out 1
 have hns9_0 := NB400_401.out
 have hms9_0 := NB401_400.out
 have hs10 : w6.cell? ⟨gb401, 2, none⟩ = some (I L 0) := (bc_ BK401.out 2)
 have hfs10 := blk_frozen BK401.out 2
 have hns10_0 := NB400_401.out
 have hms10_0 := NB401_400.out
 have hs11 : w6.cell? ⟨gb401, 3, none⟩ = some (I L 0) := (bc_ BK401.out 3)
 have hfs11 := blk_frozen BK401.out 3
 have hns11_0 := NB400_401.out
 have hms11_0 := NB401_400.out
 have hs12 : w6.cell? ⟨gb401, 4, none⟩ = some (Y none 0 0) := (bc_ BK401.out 4)
 have hfs12 := blk_frozen BK401.out 4
 have hns12_0 := NB400_401.out
 have hms12_0 := NB401_400.out
 refine skip_ (w1 := ?_) (by rfl) rfl ?_ ?_
 rotate_left
 ·go_simp
  rfl
 refine hK.out _ _ ⟨(cF_ NB400_401.out (hHeld.1)),(cF_ NB400_401.out (hHeld.2.1)),(cF_ NB400_401.out (hHeld.2.2.1)),(cF_ NB400_401.out (hHeld.2.2.2.1)),(cF_ NB400_401.out (hHeld.2.2.2.2))⟩ (fun hHeld=>?_)
 clear hK K
 refine done_ (done_of HT_.out (by kernel_rfl)) ?_
 try go_wp2
 refine bodyPost_ret (results_cell_row rfl _ _ gb401 34 #[I L a0_0,I L a0_1,I L a0_2,I L a0_3,Y Ao7 t402.length co7] (0,0) _ rfl (by exact pP_ BK401.out) Try.underlying34 rfl (by kernel_rfl)) rfl ?_
 exact ⟨_,er_,by (with_reducible repeat (first|apply Kd.R_alloc|apply Kd.R_drewN|apply Kd.R_drew));exact Kd.R_mono (fr_ (fr_ (fr_ (fr_ (fr_ (Kd.R_types HO404.out BK401.out (by decide)) 0 (I L a0_0)) 1 (I L a0_1)) 2 (I L a0_2)) 3 (I L a0_3)) 4 (Y Ao7 t402.length co7)) (fun _ hk=>trivial),pB_ HB.out⟩

-- NOT PRINTED: function 68 (slices_overlaps_impl_Kid)

-- function 79 is not called

-- function 76 is not called

-- function 69 is not called

/-! ### slices.Insert of one element: function 48, by a walk of its own (its four roads) -/
set_option maxHeartbeats 8000000 in
set_option maxRecDepth 100000 in
theorem insE48_ {w0 W : World} {base n c : Nat} {A : Option Addr} {ok okp : Nat → Prop} {α : Type} {d : Kd α} (hszz : d.sz = 6) {xs : List α} {p : α} {cs : List Value} (hp : d.M W base okp p cs) (hokp : ∀ k, okp k → ok k ∧ some k ≠ (Value.slice A n c).ownBlock) (hfresh : ∀ k, W.heap.size ≤ k → ok k)
    (HO : Kd.R d 51 W base ok (.slice A n c) xs) (HB0 : Below base w0 W) (hsz : base ≤ W.heap.size) (hl : (xs.length + 1) * 48 ≤ 140737488355328) :
    Calls Try.prog 48 #[.slice A n c, .int .i64 n, .slice (some ⟨W.heap.size, 0, none⟩) 1 1] (W.alloc (.cells cs.toArray 51)) fun r w1 => ∃ v1, r = .returned v1 ∧ Kd.R d 51 w1 base ok v1 (xs ++ [p]) ∧ Below base w0 w1 ∧ W.grownBy w1 (Value.slice A n c).ownBlock ∧ (v1.ownBlock = (Value.slice A n c).ownBlock ∨ ∃ b, v1.ownBlock = some b ∧ W.heap.size ≤ b) := by
  have hu32 := Try.underlying32
  have hn : n = xs.length := (Kd.R_reads' HO).1
  subst hn
  have hnc : xs.length ≤ c := (Kd.R_reads' HO).2.1
  have HH := Aside0.mk HO
  have HP := Aside0.mk hp
  have HB := Aside0.mk HB0
  have HK := Aside0.mk hokp
  have HF := Aside0.mk hfresh
  clear HO hp HB0 hokp hfresh
  go_enter Try.func48, Try.ntmps48
  cases A with
  | none =>
    go_wp2_with (at_builtin; refine Kd.R_append d (w0 := w0) base rfl _ _ 32 51 (.agg #[(I L 0), (I L 0), (.bool false), (I L 0), (I L 0), (I L 0)]) 48 rfl Try.underlying32 (by rw [hszz]; exact info51) hszz.symm (by rw [hszz]; decide) (by omega) (.slice none xs.length c) xs p cs ok _ rfl rfl HP.out HK.out HF.out HH.out HB.out hsz hl ?_; intro v1 w1 ho hb hg hat)
    all_goals (go_ret; exact ⟨_, rfl, ho, hb, hg, hat⟩)
  | some a =>
    obtain ⟨ab, ao, asp⟩ := a
    go_wp2_with (at_builtin; refine Kd.R_append d (w0 := w0) base rfl _ _ 32 51 (.agg #[(I L 0), (I L 0), (.bool false), (I L 0), (I L 0), (I L 0)]) 48 rfl Try.underlying32 (by rw [hszz]; exact info51) hszz.symm (by rw [hszz]; decide) (by omega) (.slice (some ⟨ab, ao, asp⟩) xs.length c) xs p cs ok _ rfl rfl HP.out HK.out HF.out HH.out HB.out hsz hl ?_; intro v1 w1 ho hb hg hat)
    all_goals (go_ret; exact ⟨_, rfl, ho, hb, hg, hat⟩)
set_option maxHeartbeats 8000000 in
set_option maxRecDepth 100000 in
theorem insS48_ {w0 W : World} {base n c g k : Nat} {ok okp : Nat → Prop} {α : Type} {d : Kd α} (hszz : d.sz = 6) {xs : List α} {p : α} {cs : List Value} (hp : d.M W base okp p cs) (hokp : ∀ k, okp k → ok k ∧ some k ≠ some g) (hfresh : ∀ k, W.heap.size ≤ k → ok k)
    (HO : Kd.R d 51 W base ok (.slice (some ⟨g, 0, none⟩) n c) xs) (HB0 : Below base w0 W) (hsz : base ≤ W.heap.size) (hk : k < n) (hroom : n + 1 ≤ c) :
    Calls Try.prog 48 #[.slice (some ⟨g, 0, none⟩) n c, .int .i64 k, .slice (some ⟨W.heap.size, 0, none⟩) 1 1] (W.alloc (.cells cs.toArray 51)) fun r w1 => r = .returned (.slice (some ⟨g, 0, none⟩) (n + 1) c) ∧ Kd.R d 51 w1 base ok (.slice (some ⟨g, 0, none⟩) (n + 1) c) (xs.take k ++ p :: xs.drop k) ∧ Below base w0 w1 ∧ W.grownBy w1 (some g) := by
  have hu32 := Try.underlying32
  have hu51 := Try.underlying51
  have hnx := Aside0.mk (Kd.R_reads' HO).1
  obtain ⟨hok, inner, hown, hr⟩ := HO
  rcases hown.2 with ⟨hv, _⟩ | ⟨g', cap', cur, hv, hb, hh, h0, hcm, hcs, htake⟩
  · cases hv
  injection hv with ha hl_ hc
  injection ha with ha
  injection ha with hg
  subst hg; subst hc
  clear hl_
  have hgl := blk_lt hh
  have hil : inner.length = n * 6 := by rw [hr.1, ← hnx.out, hszz]
  have hcl : cs.length = 6 := (d.K_len (d.K_of_M hp)).trans hszz
  rw [← hnx.out, hszz] at htake
  rw [hszz] at hcs
  obtain ⟨Wv, hWv⟩ : ∃ Wv, Wv = (W.alloc (.cells cs.toArray 51)).drew := ⟨_, rfl⟩
  have hG0 : W.grownBy Wv none := by rw [hWv]; exact World.grownBy.trans (World.grownBy_alloc W _ none) ⟨rfl, rfl, rfl, Nat.le_refl _, fun _ _ _ => rfl⟩
  have hhv : Wv.heap[g]? = some (.cells cur 51 (0, 0)) := by rw [hG0.block g hgl (by simp), hh]
  have hvb : Wv.heap[W.heap.size]? = some (.cells cs.toArray 51 (0, 0)) := by rw [hWv]; exact heap_alloc_new _ _
  have hsz1 : (Try.prog.info? 51).map (·.size) = some 6 := by kernel_rfl
  have hnl : (inner.drop (k * 6)).length = (n - k) * 6 := by rw [List.length_drop, hil]; omega
  have hone := ones_ hr
  have hcp1 : ∀ ty dc sc, (Builtin.copy_ #[32, 32] ty #[.slice (some ⟨g, (k + 1) * 6, none⟩) (n - k) dc, .slice (some ⟨g, k * 6, none⟩) (n + 1 - k) sc]).run Try.prog Wv = .ok (goInt (Nat.min (n + 1 - k) (n - k))) (Wv.setCells g ((k + 1) * 6) (inner.drop (k * 6))) := fun ty dc sc =>
    copy_run_ Wv _ _ ty 51 g ((k + 1) * 6) _ dc ⟨g, k * 6, none⟩ _ sc 6 (inner.drop (k * 6)) hu32 hsz1 (by rw [hnl, show Nat.min (n + 1 - k) (n - k) = n - k from Nat.min_eq_right (by omega)])
      (fun j v hj => by
        rw [Addr.add_lit, cell_of_row Wv g _ cur 51 (0, 0) hhv, ← Array.getElem?_toList]
        rw [List.getElem?_drop] at hj
        rw [← htake, List.getElem?_take] at hj
        split at hj
        · exact hj
        · cases hj)
      (fun j hj => by rw [cell_of_row Wv g _ cur 51 (0, 0) hhv]; rw [hnl] at hj; simp; omega) (fun j _ => blk_frozen hhv _) (fun v hv => hone v (List.mem_of_mem_drop hv))
  obtain ⟨W1, hW1⟩ : ∃ W1, W1 = Wv.setCells g ((k + 1) * 6) (inner.drop (k * 6)) := ⟨_, rfl⟩
  rw [← hW1] at hcp1
  obtain ⟨c1, h1, h2, _⟩ := setCells_row (inner.drop (k * 6)) ((k + 1) * 6) Wv cur hhv (by rw [hnl, hcs]; omega)
  rw [← hW1] at h1
  have hvb1 : W1.heap[W.heap.size]? = some (.cells cs.toArray 51 (0, 0)) := by rw [hW1, setCells_far _ _ _ (by omega)]; exact hvb
  have hcp2 : ∀ ty dc, (Builtin.copy_ #[32, 32] ty #[.slice (some ⟨g, k * 6, none⟩) (n + 1 - k) dc, .slice (some ⟨W.heap.size, 0, none⟩) 1 1]).run Try.prog W1 = .ok (goInt (Nat.min 1 (n + 1 - k))) (W1.setCells g (k * 6) cs) := fun ty dc =>
    copy_run_ W1 _ _ ty 51 g (k * 6) _ dc ⟨W.heap.size, 0, none⟩ _ 1 6 cs hu32 hsz1 (by rw [hcl, show Nat.min 1 (n + 1 - k) = 1 by simp only [Nat.min_def]; split <;> omega])
      (fun j v hj => by rw [Addr.add_lit, cell_of_row W1 _ _ _ 51 (0, 0) hvb1, Nat.zero_add]; simpa using hj)
      (fun j hj => by rw [cell_of_row W1 g _ c1 51 (0, 0) h1]; simp; omega) (fun j _ => blk_frozen h1 _) (d.K_one (d.K_of_M hp))
  obtain ⟨HR, HG⟩ := R_shifted (d := d) (w1 := W1.setCells g (k * 6) cs) hG0 (Nat.le_of_lt hk) hnx.out hroom hcm hb hgl (hok g (by simp [Value.ownBlock])) (by simpa [Value.ownBlock] using hr) hp hokp hfresh hhv (by rw [hcs, hszz]) (by rw [hszz]; exact htake) (by rw [hW1, hszz])
  have HB := HB0.grown HG hsz (fun q hq => by injection hq with hq; omega)
  have HR1 := Aside0.mk HR
  have HG1 := Aside0.mk HG
  have HB1 := Aside0.mk HB
  have hz2 : ¬ ((k : Int) = (n : Int)) := by omega
  have hext : Extern.find Try.f68 = some (Extern.SlicesOverlaps.overlaps #[32, 32] #[4]) := by kernel_rfl
  have hsy : ∀ w, (sizeOf 51).run Try.prog w = .ok 6 w := fun w => by obtain ⟨i0, hi, hs⟩ := Option.map_eq_some_iff.1 hsz1; simp [sizeOf, typeInfo, hi, hs]
  have hsg : (W.alloc (.cells cs.toArray 51)).shape? g = some (51, cur.size) := by unfold World.shape?; rw [show (W.alloc (.cells cs.toArray 51)).heap[g]? = W.heap[g]? from (World.grownBy_alloc W _ none).block g hgl (by simp), hh]
  have hsv : (W.alloc (.cells cs.toArray 51)).shape? W.heap.size = some (51, cs.toArray.size) := by unfold World.shape?; rw [heap_alloc_new]
  have hov : ∀ lb cb, (callFunc 68 #[.slice (some ⟨W.heap.size, 0, none⟩) 1 1, .slice (some ⟨g, (k + 1) * 6, none⟩) lb cb]).run Try.prog (W.alloc (.cells cs.toArray 51)) = .ok (.value (.bool false)) (W.alloc (.cells cs.toArray 51)) := fun lb cb => by
    have h1 := Lib.run_overlaps_apart (P := Try.prog) (W.alloc (.cells cs.toArray 51)) 32 4 51 hu32 6 hsy ⟨W.heap.size, 0, none⟩ ⟨g, (k + 1) * 6, none⟩ 1 1 lb cb (fun h => Nat.ne_of_gt hgl h) 51 51 cs.toArray.size cur.size hsv hsg (by omega) (blk_frozen (heap_alloc_new _ _) 0) (blk_frozen (heap_alloc_new _ _) cs.toArray.size)
    have h2 := run_callFunc_extern Try.func68 (by kernel_rfl) (by kernel_rfl) (by kernel_rfl) hext #[.slice (some ⟨W.heap.size, 0, none⟩) 1 1, .slice (some ⟨g, (k + 1) * 6, none⟩) lb cb] (W.alloc (.cells cs.toArray 51))
    rw [h1] at h2
    exact h2
  have hkn : k ≤ n := by omega
  have hc63 : c ≤ 9223372036854775807 := by unfold maxLen at hcm; omega
  have hwr : ∀ x : Int, (x = (k : Int) + 1 ∨ x = (n : Int) + 1) → wrap64 x = x := by rintro x (rfl | rfl) <;> (unfold wrap64; omega)
  have hwi : IntKind.i64.wrap ((k : Int) + 1) = (k : Int) + 1 := by rw [IntKind.wrap_i64]; omega
  have htn : ((k : Int) + 1).toNat = k + 1 := by omega
  have hb5 : (k : Int) + 1 ≤ (n : Int) + 1 := by omega
  have hw3 : ¬ ((c : Int) < (n : Int) + 1) := by omega
  have hb0 : (0 : Int) ≤ (n : Int) + 1 := by omega
  have hb1 : (0 : Int) ≤ (k : Int) + 1 := by omega
  have hb3 : (k : Int) ≤ (n : Int) + 1 := by omega
  have hb2 : ¬ (c = k + 1) := by omega
  have hb4 : ¬ (c = k) := by omega
  subst hWv
  clear hW1 h1 h2 hvb1 HR HG HB hone hnl hil hcl htake hcs hhv hvb hG0 hh hr hown hok hp hokp hfresh
  go_enter Try.func48, Try.ntmps48
  go_wp2_with (simp only [hov])
  go_region_law ((refine copyS_ rfl _ _ 32 32 rfl (.slice (some ⟨g, (k + 1) * 6, none⟩) (n - k) (c - (k + 1))) (.slice (some ⟨g, k * 6, none⟩) (n + 1 - k) (c - k)) (by simp [Act.eval, Act.put]) (by simp [Act.eval, Act.put]) (hcp1 _ _ _) ?_))
  go_wp2_with (at_builtin; refine copyL_ _ rfl _ _ 32 32 rfl _ _ rfl rfl (hcp2 _ _) ?_)
  go_ret
  exact ⟨rfl, HR1.out, HB1.out, HG1.out⟩
set_option maxHeartbeats 8000000 in
set_option maxRecDepth 100000 in
theorem insG48_ {w0 W : World} {base n c g k : Nat} {ok okp : Nat → Prop} {α : Type} {d : Kd α} (hszz : d.sz = 6) {xs : List α} {p : α} {cs : List Value} (hp : d.M W base okp p cs) (hokp : ∀ k, okp k → ok k ∧ some k ≠ (Value.slice (some ⟨g, 0, none⟩) n c).ownBlock) (hfresh : ∀ k, W.heap.size ≤ k → ok k)
    (HO : Kd.R d 51 W base ok (.slice (some ⟨g, 0, none⟩) n c) xs) (HB0 : Below base w0 W) (hsz : base ≤ W.heap.size) (hk : k < n) (hroom : c < n + 1) (hl : (n + 1) * 48 ≤ 140737488355328) :
    Calls Try.prog 48 #[.slice (some ⟨g, 0, none⟩) n c, .int .i64 k, .slice (some ⟨W.heap.size, 0, none⟩) 1 1] (W.alloc (.cells cs.toArray 51)) fun r w1 => ∃ v1, r = .returned v1 ∧ Kd.R d 51 w1 base ok v1 (xs.take k ++ p :: xs.drop k) ∧ Below base w0 w1 ∧ W.grownBy w1 (Value.slice (some ⟨g, 0, none⟩) n c).ownBlock ∧ (v1.ownBlock = (Value.slice (some ⟨g, 0, none⟩) n c).ownBlock ∨ ∃ b, v1.ownBlock = some b ∧ W.heap.size ≤ b) := by
  have hu32 := Try.underlying32
  have hnx := Aside0.mk (Kd.R_reads' HO).1
  have hnc : n ≤ c := (Kd.R_reads' HO).2.1
  have hgb := Kd.R_base HO
  obtain ⟨hok, inner, hown, hr⟩ := HO
  rcases hown.2 with ⟨hv, _⟩ | ⟨g', cap', cur, hv, hb, hh, h0, hcm, hcs, htake⟩
  · cases hv
  injection hv with ha hl_ hc
  injection ha with ha
  injection ha with hg
  subst hg; subst hc
  clear hl_ h0
  have hgl := blk_lt hh
  have hil : inner.length = n * 6 := by rw [hr.1, ← hnx.out, hszz]
  have hcl : cs.length = 6 := (d.K_len (d.K_of_M hp)).trans hszz
  rw [← hnx.out, hszz] at htake
  rw [hszz] at hcs
  obtain ⟨i0, hi0, hzz⟩ := Option.map_eq_some_iff.1 info51
  simp only [Prod.mk.injEq] at hzz
  obtain ⟨hz0, hz1, hz2⟩ := hzz
  have hsz1 : (Try.prog.info? 51).map (·.size) = some 6 := by rw [hi0]; simp [hz1]
  have hone := ones_ hr
  have hcell : ∀ (w : World), w.heap[g]? = some (.cells cur 51 (0, 0)) → ∀ (o : Nat) (l : List Value) (m : Nat), l = (inner.drop o).take m → ∀ j v, l[j]? = some v → w.cell? ((⟨g, o, none⟩ : Addr).add j) = some v := fun w hw o l m hl j v hj => by
    subst hl
    rw [List.getElem?_take] at hj
    split at hj
    · rw [Addr.add_lit, cell_of_row w g _ cur 51 (0, 0) hw, ← Array.getElem?_toList]
      rw [List.getElem?_drop, ← htake, List.getElem?_take] at hj
      split at hj
      · exact hj
      · cases hj
    · cases hj
  obtain ⟨Wa, hWa⟩ : ∃ Wa, Wa = W.alloc (.cells cs.toArray 51) := ⟨_, rfl⟩
  have hGa : W.grownBy Wa none := by rw [hWa]; exact World.grownBy_alloc W _ none
  have hha : Wa.heap[g]? = some (.cells cur 51 (0, 0)) := by rw [hGa.block g hgl (by simp), hh]
  have hva : Wa.heap[W.heap.size]? = some (.cells cs.toArray 51 (0, 0)) := by rw [hWa]; exact heap_alloc_new _ _
  have hNa : Wa.heap.size = W.heap.size + 1 := by rw [hWa]; simp [World.alloc_eq]
  have hold : (Builtin.firstCells i0.size k (.slice (some ⟨g, 0, none⟩) k c)).run Try.prog Wa.drew = .ok (inner.take (k * 6)).toArray Wa.drew := by
    rw [hz1]
    exact run_firstCells_some Wa.drew 6 k ⟨g, 0, none⟩ k c (inner.take (k * 6)) (by rw [List.length_take, hil]; omega) (hcell Wa.drew hha 0 _ (k * 6) (by rw [List.drop_zero]))
  have hkk : (n : Int) + 1 - (k : Int) = ((n + 1 - k : Nat) : Int) := by omega
  have hik : k + (n + 1 - k) = n + 1 := by omega
  obtain ⟨G, hG⟩ : ∃ G, G = grownCap Wa (n + 1) c 51 := ⟨_, rfl⟩
  obtain ⟨ROW, hROW⟩ : ∃ ROW : Array Value, ROW = (inner.take (k * 6)).toArray ++ Builtin.zeroCells ((.agg #[(I L 0), (I L 0), (.bool false), (I L 0), (I L 0), (I L 0)]) : Value).cells (n + 1 - k) ++ Builtin.zeroCells ((.agg #[(I L 0), (I L 0), (.bool false), (I L 0), (I L 0), (I L 0)]) : Value).cells (G - (n + 1)) := ⟨_, rfl⟩
  obtain ⟨W1, hW1⟩ : ∃ W1, W1 = Wa.drew.alloc (.cells ROW 51) := ⟨_, rfl⟩
  obtain ⟨N, hN⟩ : ∃ N, N = Wa.heap.size := ⟨_, rfl⟩
  have hrz : ∀ ty, (Builtin.append_ #[32, 3] ty #[.slice (some ⟨g, 0, none⟩) k c, .int .i64 ((n : Int) + 1 - (k : Int))]).run Try.prog Wa = .ok (.slice (some ⟨N, 0, none⟩) (n + 1) G) W1 := fun ty => by
    have h := Lib.run_append_grow_zeros Wa 32 3 ty 51 i0 _ .i64 .i64 hu32 Try.underlying3 hi0 hz0 (some ⟨g, 0, none⟩) k c (inner.take (k * 6)) hold (n + 1 - k) (by omega) (by omega) (by omega) (by omega) (by rw [hz2]; omega) (by rw [hz2, hik]; exact growslice_fits hroom hl)
    rw [hik] at h
    rw [hkk, h, hN, hW1, hROW, hG]
  have hGn : n + 1 ≤ G := by rw [hG]; exact grownCap_ge _ _ _ _
  have hGm : G ≤ maxLen := by rw [hG]; exact grownCap_le_maxLen _ _ _ _ (by unfold maxLen; omega)
  have hG63 : G ≤ 9223372036854775807 := by unfold maxLen at hGm; omega
  have hzs : ((.agg #[(I L 0), (I L 0), (.bool false), (I L 0), (I L 0), (I L 0)]) : Value).cells.size = 6 := by rfl
  have hRs : ROW.size = G * 6 := by
    rw [hROW]
    simp only [Array.size_append, List.size_toArray, List.length_take, hil, size_zeroCells, hzs]
    omega
  have hRt : ROW.toList.take (k * 6) = inner.take (k * 6) := by
    rw [hROW]
    simp only [Array.toList_append, List.append_assoc]
    exact List.take_left' (by rw [List.length_take, hil]; omega)
  have hG1 : W.grownBy W1 none := by rw [hW1]; exact hGa.trans (World.grownBy.trans (show Wa.grownBy Wa.drew none from ⟨rfl, rfl, rfl, Nat.le_refl _, fun _ _ _ => rfl⟩) (World.grownBy_alloc _ _ none))
  have hh1 : W1.heap[N]? = some (.cells ROW 51 (0, 0)) := by rw [hW1, hN]; exact heap_alloc_new Wa.drew _
  have hg1 : W1.heap[g]? = some (.cells cur 51 (0, 0)) := by rw [hG1.block g hgl (by simp), hh]
  have hv1 : W1.heap[W.heap.size]? = some (.cells cs.toArray 51 (0, 0)) := by rw [hW1, heap_alloc_old Wa.drew _ (show _ < Wa.heap.size by omega)]; exact hva
  obtain ⟨W2, hW2⟩ : ∃ W2, W2 = W1.setCells N (k * 6) cs := ⟨_, rfl⟩
  have hcpA : ∀ ty dc, (Builtin.copy_ #[32, 32] ty #[.slice (some ⟨N, k * 6, none⟩) (n + 1 - k) dc, .slice (some ⟨W.heap.size, 0, none⟩) 1 1]).run Try.prog W1 = .ok (goInt (Nat.min 1 (n + 1 - k))) W2 := fun ty dc => by
    rw [hW2]
    exact copy_run_ W1 _ _ ty 51 N (k * 6) _ dc ⟨W.heap.size, 0, none⟩ _ 1 6 cs hu32 hsz1 (by rw [hcl, show Nat.min 1 (n + 1 - k) = 1 by simp only [Nat.min_def]; split <;> omega])
      (fun j v hj => by rw [Addr.add_lit, cell_of_row W1 _ _ _ 51 (0, 0) hv1, Nat.zero_add]; simpa using hj)
      (fun j hj => by rw [cell_of_row W1 N _ ROW 51 (0, 0) hh1]; simp; omega) (fun j _ => blk_frozen hh1 _) (d.K_one (d.K_of_M hp))
  obtain ⟨c1, h1, h2, _⟩ := setCells_row cs (k * 6) W1 ROW hh1 (by omega)
  rw [← hW2] at h1
  have hg2 : W2.heap[g]? = some (.cells cur 51 (0, 0)) := by rw [hW2, setCells_far _ _ _ (by omega)]; exact hg1
  have hnl : (inner.drop (k * 6)).length = (n - k) * 6 := by rw [List.length_drop, hil]; omega
  obtain ⟨W3, hW3⟩ : ∃ W3, W3 = W2.drew.setCells N ((k + 1) * 6) (inner.drop (k * 6)) := ⟨_, rfl⟩
  have hcpB : ∀ ty dc sc, (Builtin.copy_ #[32, 32] ty #[.slice (some ⟨N, (k + 1) * 6, none⟩) (n - k) dc, .slice (some ⟨g, k * 6, none⟩) (n - k) sc]).run Try.prog W2.drew = .ok (goInt (Nat.min (n - k) (n - k))) W3 := fun ty dc sc => by
    rw [hW3]
    exact copy_run_ W2.drew _ _ ty 51 N ((k + 1) * 6) _ dc ⟨g, k * 6, none⟩ _ sc 6 (inner.drop (k * 6)) hu32 hsz1 (by rw [hnl, show Nat.min (n - k) (n - k) = n - k from Nat.min_self _])
      (hcell W2.drew hg2 (k * 6) _ (inner.drop (k * 6)).length (by rw [List.take_length]))
      (fun j hj => by rw [cell_of_row W2.drew N _ c1 51 (0, 0) h1]; rw [hnl] at hj; simp; omega) (fun j _ => blk_frozen (w := W2.drew) h1 _) (fun v hv => hone v (List.mem_of_mem_drop hv))
  obtain ⟨HR, HG⟩ := R_moved (d := d) (e := 51) (base := base) (Wv := W1.drew) (w1 := W3) (N := N) (row := ROW) (v := .slice (some ⟨g, 0, none⟩) n c) (hG1.trans ⟨rfl, rfl, rfl, Nat.le_refl _, fun _ _ _ => rfl⟩) (by omega) (by omega) (Nat.le_of_lt hk) hnx.out hGn hGm hok hr hp hokp hfresh hh1 (by rw [hRs, hszz]) (by rw [hszz]; exact hRt) (by rw [hW3, hW2, drew_setC, hszz])
  have HB := HB0.grown HG hsz hgb
  have HR1 := Aside0.mk HR
  have HG1 := Aside0.mk HG
  have HB1 := Aside0.mk HB
  have HN : Aside0 (W.heap.size ≤ N) := ⟨by omega⟩
  have hz3 : (c : Int) < (n : Int) + 1 := by omega
  have hz2_ : ¬ ((k : Int) = (n : Int)) := by omega
  have hkn : k ≤ n := by omega
  have hc63 : c ≤ 9223372036854775807 := by unfold maxLen at hcm; omega
  have hwr : ∀ x : Int, (x = (k : Int) + 1 ∨ x = (n : Int) + 1 ∨ x = (n : Int) + 1 - k) → wrap64 x = x := by rintro x (rfl | rfl | rfl) <;> (unfold wrap64; omega)
  have hwi : IntKind.i64.wrap ((k : Int) + 1) = (k : Int) + 1 := by rw [IntKind.wrap_i64]; omega
  have htn : ((k : Int) + 1).toNat = k + 1 := by omega
  have hb0 : (0 : Int) ≤ (n : Int) + 1 := by omega
  have hb1 : (0 : Int) ≤ (k : Int) + 1 := by omega
  have hb3 : (k : Int) ≤ (n : Int) + 1 := by omega
  have hb5 : (k : Int) + 1 ≤ (n : Int) + 1 := by omega
  have hci : ¬ (c = k) := by omega
  have hGi : ¬ (G = k) := by omega
  have hGim : ¬ (G = k + 1) := by omega
  subst hWa
  clear hW1 hW2 hW3 hN hG hROW h1 h2 hRs hRt hh1 hg1 hv1 hg2 hG1 hGa hha hva hNa hold hkk hik hcell HR HG HB hone hnl hil hcl htake hcs hh hr hown hok hp hokp hfresh hGm hcm hzs
  go_enter Try.func48, Try.ntmps48
  go_wp2_with (first
    | (at_builtin; refine Lib.wpList_append_run _ rfl _ _ _ _ rfl _ _ rfl rfl _ _ (hrz _) ?_)
    | (at_builtin; refine copyL_ _ rfl _ _ 32 32 rfl _ _ rfl rfl (hcpA _ _) ?_))
  go_region_law ((refine copyS_ rfl _ _ 32 32 rfl (.slice (some ⟨N, (k + 1) * 6, none⟩) (n - k) (G - (k + 1))) (.slice (some ⟨g, k * 6, none⟩) (n - k) (c - k)) (by simp [Act.eval, Act.put]) (by simp [Act.eval, Act.put]) (hcpB _ _ _) ?_))
  go_wp2
  go_ret
  exact ⟨_, rfl, HR1.out, HB1.out, HG1.out, .inr ⟨N, by simp [Value.ownBlock], HN.out⟩⟩
theorem insD48_ {w0 W : World} {base : Nat} {v : Value} {ok okp : Nat → Prop} {α : Type} {d : Kd α} (hszz : d.sz = 6) {xs : List α} {p : α} {cs : List Value} {i : Int} {vb : Nat} (hvb : vb = W.heap.size) (hp : d.M W base okp p cs) (hokp : ∀ k, okp k → ok k ∧ some k ≠ v.ownBlock) (hfresh : ∀ k, W.heap.size ≤ k → ok k)
    (HO : Kd.R d 51 W base ok v xs) (HB0 : Below base w0 W) (hsz : base ≤ W.heap.size) (hl : (xs.length + 1) * 48 ≤ 140737488355328) (hi : 0 ≤ i) (hin : i ≤ (xs.length : Int)) :
    Calls Try.prog 48 #[v, .int .i64 i, .slice (some ⟨vb, 0, none⟩) 1 1] (W.alloc (.cells cs.toArray 51)) fun r w1 => ∃ v1, r = .returned v1 ∧ Kd.R d 51 w1 base ok v1 (xs.take i.toNat ++ ([p] ++ xs.drop i.toNat)) ∧ Below base w0 w1 ∧ W.grownBy w1 v.ownBlock ∧ (v1.ownBlock = v.ownBlock ∨ ∃ b, v1.ownBlock = some b ∧ W.heap.size ≤ b) := by
  subst hvb
  obtain ⟨A, c, rfl⟩ := Kd.R_slice HO
  obtain ⟨n, hn⟩ : ∃ n, n = xs.length := ⟨_, rfl⟩
  rw [← hn] at HO hin hokp ⊢
  obtain ⟨k, rfl⟩ : ∃ k : Nat, i = k := ⟨i.toNat, by omega⟩
  rw [Int.toNat_natCast]
  show Calls Try.prog 48 #[.slice A n c, .int .i64 k, .slice (some ⟨W.heap.size, 0, none⟩) 1 1] (W.alloc (.cells cs.toArray 51)) fun r w1 => ∃ v1, r = .returned v1 ∧ Kd.R d 51 w1 base ok v1 (xs.take k ++ p :: xs.drop k) ∧ _
  by_cases hke : k = n
  · subst hke
    rw [show xs.take k ++ p :: xs.drop k = xs ++ [p] by rw [hn, List.take_length, List.drop_length]]
    exact insE48_ hszz hp hokp hfresh HO HB0 hsz hl
  · have hk : k < n := by omega
    obtain ⟨g, cap, ev, _⟩ := Kd.R_form HO (by omega)
    injection ev with ea en ec
    subst ea
    by_cases hr : n + 1 ≤ c
    · exact (insS48_ hszz hp (by simpa [Value.ownBlock] using hokp) hfresh HO HB0 hsz hk hr).mono fun e w' ⟨h1, h2, h3, h4⟩ => ⟨_, h1, h2, h3, by simpa [Value.ownBlock] using h4, .inl (by simp [Value.ownBlock])⟩
    · exact insG48_ hszz hp hokp hfresh HO HB0 hsz hk (by omega) (by rw [hn]; exact hl)
theorem ins48_ {w0 W : World} {base : Nat} {v : Value} {ok okp : Nat → Prop} {xs : List S51} {p : S51} {cs : List Value} {i : Int} {vb : Nat} (hvb : vb = W.heap.size) (hp : k51.M W base okp p cs) (hokp : ∀ k, okp k → ok k ∧ some k ≠ v.ownBlock) (hfresh : ∀ k, W.heap.size ≤ k → ok k)
    (HO : Kd.R k51 51 W base ok v xs) (HB0 : Below base w0 W) (hsz : base ≤ W.heap.size) (hl : (xs.length + 1) * 48 ≤ 140737488355328) (hi : 0 ≤ i) (hin : i ≤ (xs.length : Int)) :
    Calls Try.prog 48 #[v, .int .i64 i, .slice (some ⟨vb, 0, none⟩) 1 1] (W.alloc (.cells cs.toArray 51)) fun r w1 => ∃ v1, r = .returned v1 ∧ Kd.R k51 51 w1 base ok v1 (xs.take i.toNat ++ ([p] ++ xs.drop i.toNat)) ∧ Below base w0 w1 ∧ W.grownBy w1 v.ownBlock ∧ (v1.ownBlock = v.ownBlock ∨ ∃ b, v1.ownBlock = some b ∧ W.heap.size ≤ b) := by
  exact insD48_ rfl hvb hp hokp hfresh HO HB0 hsz hl hi hin


/-! ### impl_FairJoin: function 21 -/
mutual
def impl_FairJoin.j0 : Nat → Int → Int → Bool → Int → Int → Int → Int → List (S51) → Option (Int × Int × Int × Int × (List (S51)) × Int)
 | 0, _, _, _, _, _, _, _, _ => none
 | k + 1,x1,x2,x10,x413000,x413001,x413002,x413003,x413004=>if x10=true then (some (0,0,0,0,([]:List (S51)),1)) else ((impl_Fair_at.f k x413000 x413001 x413002 x413003 x413004 x1).bind fun t417=>(if t417 ≥ 0 then (some (0,0,0,0,([]:List (S51)),2)) else (if (x413004.length:Int)=48 then (some (0,0,0,0,([]:List (S51)),3)) else (impl_FairJoin.l0 k x1 x2 0 x413000 x413001 x413002 x413003 x413004))))
def impl_FairJoin.l0 : Nat → Int → Int → Int → Int → Int → Int → Int → List (S51) → Option (Int × Int × Int × Int × (List (S51)) × Int)
 | 0, _, _, _, _, _, _, _, _ => none
 | k + 1,x1,x2,x8,x413000,x413001,x413002,x413003,x413004=>if x8 < (x413004.length:Int) then (if 0≤x8 then (if ((rd_T51 x413004 x8).f0) < x1 then (impl_FairJoin.l0 k x1 x2 (wrap64 (x8 + 1)) x413000 x413001 x413002 x413003 x413004) else ((impl_copyFair.f x413000 x413001 x413002 x413003 x413004).bind fun bt419=>(if x8≤(bt419.2.2.2.2.length:Int) then (if bt419.2.2.2.2.length < 2932031007402 then (some (bt419.1,bt419.2.1,bt419.2.2.1,bt419.2.2.2.1,(bt419.2.2.2.2.take (x8:Int).toNat ++ ([(⟨x1,x2,false,(⟨0,0,0⟩:S31)⟩:S51)] ++ bt419.2.2.2.2.drop (x8:Int).toNat)),0)) else (none)) else (none)))) else (none)) else ((impl_copyFair.f x413000 x413001 x413002 x413003 x413004).bind fun bt430=>(if 0≤x8 then (if x8≤(bt430.2.2.2.2.length:Int) then (if bt430.2.2.2.2.length < 2932031007402 then (some (bt430.1,bt430.2.1,bt430.2.2.1,bt430.2.2.2.1,(bt430.2.2.2.2.take (x8:Int).toNat ++ ([(⟨x1,x2,false,(⟨0,0,0⟩:S31)⟩:S51)] ++ bt430.2.2.2.2.drop (x8:Int).toNat)),0)) else (none)) else (none)) else (none)))
end
def impl_FairJoin.f (k : Nat) (a0_0 a0_1 a0_2 a0_3 : Int) (l0_4 : List (S51)) (a1 a2 : Int) : Option (Int × Int × Int × Int × (List (S51)) × Int) := (impl_FairOk.f k a0_0 a0_1 a0_2 a0_3 l0_4).bind fun t414 => (if t414 = true then ((impl_isFlow.f a1).bind fun t415 => (if t415 = true then ((impl_isWeight.f a2).bind fun t416 => (impl_FairJoin.j0 k a1 a2 (!t416) a0_0 a0_1 a0_2 a0_3 l0_4)) else (impl_FairJoin.j0 k a1 a2 true a0_0 a0_1 a0_2 a0_3 l0_4))) else (impl_FairJoin.j0 k a1 a2 true a0_0 a0_1 a0_2 a0_3 l0_4))
set_option maxHeartbeats 8000000 in
set_option maxRecDepth 100000 in
theorem impl_FairJoin.calls (k : Nat) (a0_0 a0_1 a0_2 a0_3 : Int) (A0_4 : Option Addr) (c0_4 : Nat) (l0_4 : List (S51)) (a1 a2 r1 r2 r3 r4 : Int) (r5 : List (S51)) (r6 : Int) (w : World) (hr0_4 : Kd.C k51 w A0_4 l0_4.length l0_4) (hc0_4 : l0_4.length ≤ c0_4) (h : impl_FairJoin.f k a0_0 a0_1 a0_2 a0_3 l0_4 a1 a2 = some (r1, r2, r3, r4, r5, r6)) :
  Calls Try.prog 21 #[.agg #[I L a0_0,I L a0_1,I L a0_2,I L a0_3,Y A0_4 l0_4.length c0_4],I L a1,I L a2] w fun e w'=>∃ v4_:Value,e=.returned (.tuple #[.agg #[I L r1,I L r2,I L r3,I L r4,v4_],I L r6])∧Kd.R k51 51 w' w.heap.size (fun _=>True) v4_ r5∧Below w.heap.size w w':=by
 have hu34 := Try.underlying34
 have hu51 := Try.underlying51
 have HR0_4 := D hr0_4
 have HC0_4 := D hc0_4
 clear hr0_4 hc0_4
 have HB := D (Below.refl w.heap.size w)
 have H:((impl_FairOk.f k a0_0 a0_1 a0_2 a0_3 l0_4).bind fun Uf=>(if Uf=true then ((impl_isFlow.f a1).bind fun Xf=>(if Xf=true then ((impl_isWeight.f a2).bind fun Oe=>(impl_FairJoin.j0 k a1 a2 (!Oe) a0_0 a0_1 a0_2 a0_3 l0_4)) else (impl_FairJoin.j0 k a1 a2 true a0_0 a0_1 a0_2 a0_3 l0_4))) else (impl_FairJoin.j0 k a1 a2 true a0_0 a0_1 a0_2 a0_3 l0_4)))=some (r1,r2,r3,r4,r5,r6):=h
 clear h
 have HC4 := D H
 clear H
 go_enter Try.func21, Try.ntmps21
 go_upto_region 1 with (first|((with_reducible refine gate_dst (N:=3) rfl ?_);refine bx_ (N:=3) (cs:=#[I L a0_0,I L a0_1,I L a0_2,I L a0_3,Y A0_4 l0_4.length c0_4]) (t:=34) ?_;intro Xb hg w5 hbox hb;have n_:=an_ (below_step (pB_ HB.out) hb)<|an_ (hbox)<|an_ (bg_ hg (pB_ HB.out):w.heap.size≤Xb)<|D (bg_ hg (pB_ HB.out):w.heap.size≤Xb);clear HB;obtain ⟨HB,Ka,Uz,Xz⟩:=n_;clear hb hbox hg)|((with_reducible refine gate_dst (N:=6) rfl ?_);refine bx_ (N:=6) (cs:=#[I L 0,I L 0,I L 0,I L 0,Y none 0 0]) (t:=34) ?_;intro Ma hg w6 hbox hb;have n_:=an_ (blk_below (pk_ Ka.out) hb)<|an_ (below_step (pB_ HB.out) hb)<|an_ (hbox)<|an_ (bg_ hg (pB_ HB.out):w.heap.size≤Ma)<|an_ (bg_ hg (pB_ HB.out):w.heap.size≤Ma)<|an_ (nl_ hg (pk_ Ka.out):Xb≠Ma)<|D (by rw [hg];exact Nat.ne_of_gt (blk_lt (pk_ Ka.out)):Ma≠Xb);clear Ka HB;obtain ⟨Ka,HB,Ja,Ja1,Ka1,Mc,Oc⟩:=n_;clear hb hbox hg))
 (try simp only [Act.put, List.setIfInBounds_toArray, List.set_cons_zero, List.set_cons_succ])
 go_cut [10] (fun v10 wc=>∃ (kq:Nat) (Ue:Bool),v10=.bool Ue∧Aside0 (impl_FairJoin.j0 kq a1 a2 Ue a0_0 a0_1 a0_2 a0_3 l0_4=some (r1,r2,r3,r4,r5,r6))∧Aside0 (kq≤k)∧Aside0 (wc.heap[Xb]?=some (.cells #[I L a0_0,I L a0_1,I L a0_2,I L a0_3,(Y A0_4 l0_4.length c0_4)] 34 (0,0)))∧Aside0 (wc.heap[Ma]?=some (.cells #[I L 0,I L 0,I L 0,I L 0,(Y none 0 0)] 34 (0,0)))∧Aside0 (Below w.heap.size w wc))
 case first =>
  have H := HC4.out; clear HC4; obtain ⟨Uf, A70, H⟩ := bs_.mp H; (try dsimp only at H); have A7 := D A70; clear A70
  by_cases c8 : Uf = true
  ·subst c8
   rw [if_pos rfl] at H; obtain ⟨Xf, A90, H⟩ := bs_.mp H; (try dsimp only at H); have A9 := D A90; clear A90
   by_cases c10 : Xf = true
   ·subst c10
    rw [if_pos rfl] at H;obtain ⟨Oe,A110,H⟩:=bs_.mp H;(try dsimp only at H);have A11:=D A110;clear A110;have H':=D H;clear H;(try have:=Mc.out);(try have:=Oc.out);have Ug:=cells5 Ka.out
    go_wp2_with (first|((with_reducible refine gate_callee (f:=43) rfl ?_);refine goesL_ (some 12) rfl rfl Try.func43 (by kernel_rfl) rfl #[.agg #[I L a0_0,I L a0_1,I L a0_2,I L a0_3,Y A0_4 l0_4.length c0_4]] rfl Z21 ?_;(with_reducible refine (impl_FairOk.calls k a0_0 a0_1 a0_2 a0_3 _ _ l0_4 true _ ?side1 ?side2 A7.out).mono ?_);(case side1=>exact pC_ (Kd.C_below HR0_4.out HB.out));(case side2=>exact HC0_4.out);rintro e w14 ⟨rfl,hb⟩;refine ⟨_,rfl,?_⟩;have n_:=an_ (blk_below (pk_ Ka.out) hb)<|an_ (blk_below (pk_ Ja.out) hb)<|D (below_step (pB_ HB.out) hb);clear Ka Ja HB;obtain ⟨Ka,Ja,HB⟩:=n_;(try clear hb))|(go_at_call 45;(with_reducible refine (impl_isFlow.calls a1 true _ A9.out).mono ?_);rintro e w' ⟨rfl,⟨nd,rfl⟩⟩)|(go_at_call 46;(with_reducible refine (impl_isWeight.calls a2 Oe _ A11.out).mono ?_);rintro e w' ⟨rfl,⟨nd,rfl⟩⟩))
    go_meet
    case rel => exact ⟨_, (!Oe), Z53, H', ⟨by first | omega | exact Nat.le_refl _⟩, ⟨pk_ Ka.out⟩, ⟨pk_ Ja.out⟩, ⟨pB_ HB.out⟩⟩
   ·replace c10 := Bool.eq_false_iff.mpr c10
    subst c10;rw [if_neg (show ¬ (false=true) by decide)] at H;have H':=D H;clear H;(try have:=Mc.out);(try have:=Oc.out);have Mi:=cells5 Ka.out
    go_wp2_with (first|((with_reducible refine gate_callee (f:=43) rfl ?_);refine goesL_ (some 12) rfl rfl Try.func43 (by kernel_rfl) rfl #[.agg #[I L a0_0,I L a0_1,I L a0_2,I L a0_3,Y A0_4 l0_4.length c0_4]] rfl Z21 ?_;(with_reducible refine (impl_FairOk.calls k a0_0 a0_1 a0_2 a0_3 _ _ l0_4 true _ ?side1 ?side2 A7.out).mono ?_);(case side1=>exact pC_ (Kd.C_below HR0_4.out HB.out));(case side2=>exact HC0_4.out);rintro e w17 ⟨rfl,hb⟩;refine ⟨_,rfl,?_⟩;have n_:=an_ (blk_below (pk_ Ka.out) hb)<|an_ (blk_below (pk_ Ja.out) hb)<|D (below_step (pB_ HB.out) hb);clear Ka Ja HB;obtain ⟨Ka,Ja,HB⟩:=n_;(try clear hb))|(go_at_call 45;(with_reducible refine (impl_isFlow.calls a1 false _ A9.out).mono ?_);rintro e w' ⟨rfl,⟨nd,rfl⟩⟩))
    go_meet
    case rel => exact ⟨_, (true), Z53, H', ⟨by first | omega | exact Nat.le_refl _⟩, ⟨pk_ Ka.out⟩, ⟨pk_ Ja.out⟩, ⟨pB_ HB.out⟩⟩
  ·replace c8 := Bool.eq_false_iff.mpr c8
   subst c8;rw [if_neg (show ¬ (false=true) by decide)] at H;have H':=D H;clear H;(try have:=Mc.out);(try have:=Oc.out);have Jk:=cells5 Ka.out
   go_wp2_with (first|((with_reducible refine gate_callee (f:=43) rfl ?_);refine goesL_ (some 12) rfl rfl Try.func43 (by kernel_rfl) rfl #[.agg #[I L a0_0,I L a0_1,I L a0_2,I L a0_3,Y A0_4 l0_4.length c0_4]] rfl Z21 ?_;(with_reducible refine (impl_FairOk.calls k a0_0 a0_1 a0_2 a0_3 _ _ l0_4 false _ ?side1 ?side2 A7.out).mono ?_);(case side1=>exact pC_ (Kd.C_below HR0_4.out HB.out));(case side2=>exact HC0_4.out);rintro e w20 ⟨rfl,hb⟩;refine ⟨_,rfl,?_⟩;have n_:=an_ (blk_below (pk_ Ka.out) hb)<|an_ (blk_below (pk_ Ja.out) hb)<|D (below_step (pB_ HB.out) hb);clear Ka Ja HB;obtain ⟨Ka,Ja,HB⟩:=n_;(try clear hb)))
   go_meet
   case rel => exact ⟨_, (true), Z53, H', ⟨by first | omega | exact Nat.le_refl _⟩, ⟨pk_ Ka.out⟩, ⟨pk_ Ja.out⟩, ⟨pB_ HB.out⟩⟩
 case rest =>
  clear HC4
  (try clear c1);(try clear c2);(try clear p2);(try clear c4);(try clear c8);(try clear c10);(try clear c12);(try clear c15);(try clear c18);(try clear Ug);(try clear Mi);(try clear Jk)
  obtain ⟨kq, Ue, rfl, HA, HJ3, Ka, Ja, HB⟩ := hcut
  cases kq with
  | zero => exact absurd HA.out (by simp [impl_FairJoin.j0])
  | succ kj3 =>
   have H := HA.out; clear HA; simp only [impl_FairJoin.j0] at H
   by_cases c21 : Ue = true
   ·subst c21
    rw [if_pos rfl] at H;simp only [Option.some.injEq,Prod.mk.injEq] at H;obtain ⟨rfl,rfl,rfl,rfl,rfl,rfl⟩:=H;(try have:=Oc.out);(try have:=Mc.out);have Jn:=cells5 Ja.out
    go_wp2
    refine bodyPost_ret (results_ct rfl _ _ Ma 34 #[I L 0,I L 0,I L 0,I L 0,Y none 0 0] (0,0) _ rfl Z7 Try.underlying34 rfl (by kernel_rfl)) rfl ?_;exact ⟨_,er_,by first|exact Kd.R_nil _ _ _ _ _|exact Kd.N_nil _ _ _ _ _|exact Kd.V_nil _ _ _ _ _|exact Kd.Q_nil _ _ _ _ _|exact Kd.S_nil _ _ _ _ _,pB_ HB.out⟩
   ·replace c21 := Bool.eq_false_iff.mpr c21
    subst c21;rw [if_neg (show ¬ (false=true) by decide)] at H;obtain ⟨Xe,A240,H⟩:=bs_.mp H;(try dsimp only at H);have A24:=D A240;clear A240;have HU25:=D H;clear H;(try have:=Mc.out);(try have:=Oc.out);have Uo:=cells5 Ka.out
    go_upto_if 25 with (first|((with_reducible refine gate_callee (f:=24) rfl ?_);refine goesL_ (some 28) rfl rfl Try.func24 (by kernel_rfl) rfl #[.agg #[I L a0_0,I L a0_1,I L a0_2,I L a0_3,Y A0_4 l0_4.length c0_4],I L a1] rfl Z21 ?_;(with_reducible refine (impl_Fair_at.calls kj3 a0_0 a0_1 a0_2 a0_3 _ _ l0_4 a1 Xe _ ?side1 ?side2 A24.out).mono ?_);(case side1=>exact pC_ (Kd.C_below HR0_4.out HB.out));(case side2=>exact HC0_4.out);rintro e w28 ⟨rfl,hb⟩;refine ⟨_,rfl,?_⟩;have n_:=an_ (blk_below (pk_ Ka.out) hb)<|an_ (blk_below (pk_ Ja.out) hb)<|D (below_step (pB_ HB.out) hb);clear Ka Ja HB;obtain ⟨Ka,Ja,HB⟩:=n_;(try clear hb)))
    have H := HU25.out; clear HU25
    by_cases c29 : Xe ≥ 0
    ·rw [if_pos c29] at H
     have c29b0:decide (0≤Xe)=true:=decide_eq_true c29;clear c29;refine rw_ c29b0 ?_;simp only [Option.some.injEq,Prod.mk.injEq] at H;obtain ⟨rfl,rfl,rfl,rfl,rfl,rfl⟩:=H;(try have:=Oc.out);(try have:=Mc.out);have Mq:=cells5 Ja.out
     go_wp2
     refine bodyPost_ret (results_ct rfl _ _ Ma 34 #[I L 0,I L 0,I L 0,I L 0,Y none 0 0] (0,0) _ rfl Z7 Try.underlying34 rfl (by kernel_rfl)) rfl ?_;exact ⟨_,er_,by first|exact Kd.R_nil _ _ _ _ _|exact Kd.N_nil _ _ _ _ _|exact Kd.V_nil _ _ _ _ _|exact Kd.Q_nil _ _ _ _ _|exact Kd.S_nil _ _ _ _ _,pB_ HB.out⟩
    ·rw [if_neg c29] at H
     have c29b0:decide (0≤Xe)=false:=decide_eq_false c29;clear c29;refine rw_ c29b0 ?_
     by_cases c32 : (l0_4.length : Int) = 48
     ·rw [if_pos c32] at H
      have c32b0:((l0_4.length:Int) == 48)=true:=beq_iff_eq.mpr c32;have c32b1:((l0_4.length:Int) != 48)=false:=bne_eq_false_iff_eq.mpr c32;clear c32;simp only [Option.some.injEq,Prod.mk.injEq] at H;obtain ⟨rfl,rfl,rfl,rfl,rfl,rfl⟩:=H;(try have:=Mc.out);(try have:=Oc.out);have Js:=cells5 Ka.out;have Uu:=cells5 Ja.out
      go_wp2
      refine bodyPost_ret (results_ct rfl _ _ Ma 34 #[I L 0,I L 0,I L 0,I L 0,Y none 0 0] (0,0) _ rfl Z7 Try.underlying34 rfl (by kernel_rfl)) rfl ?_;exact ⟨_,er_,by first|exact Kd.R_nil _ _ _ _ _|exact Kd.N_nil _ _ _ _ _|exact Kd.V_nil _ _ _ _ _|exact Kd.Q_nil _ _ _ _ _|exact Kd.S_nil _ _ _ _ _,pB_ HB.out⟩
     ·rw [if_neg c32] at H
      have c32b0:((l0_4.length:Int) == 48)=false:=beq_eq_false_iff_ne.mpr c32;have c32b1:((l0_4.length:Int) != 48)=true:=bne_iff_ne.mpr c32;have H':=D H;clear H;(try have:=Mc.out);(try have:=Oc.out);have Mx:=cells5 Ka.out
      go_wp2
      go_loopg [8] kj3 (fun kq v8 w'=>∃ (x8_2:Int),v8=I L x8_2∧Aside0 (impl_FairJoin.l0 kq a1 a2 x8_2 a0_0 a0_1 a0_2 a0_3 l0_4=some (r1,r2,r3,r4,r5,r6))∧Aside0 (kq≤kj3)∧Aside0 (w'.heap[Xb]?=some (.cells #[I L a0_0,I L a0_1,I L a0_2,I L a0_3,(Y A0_4 l0_4.length c0_4)] 34 (0,0)))∧Aside0 (w'.heap[Ma]?=some (.cells #[I L 0,I L 0,I L 0,I L 0,(Y none 0 0)] 34 (0,0)))∧Aside0 (Below w.heap.size w w'))
      case atStart => exact ⟨(0), Z53, H', ⟨Nat.le_refl _⟩, ⟨pk_ Ka.out⟩, ⟨pk_ Ja.out⟩, ⟨pB_ HB.out⟩⟩
      case round =>
       clear H'
       (try clear c1);(try clear c2);(try clear p2);(try clear c3);(try clear c4);(try clear c8);(try clear c10);(try clear c12);(try clear c15);(try clear c18);(try clear c21);(try clear c22);(try clear c24);(try clear c26);(try clear c29);(try clear c29b0);(try clear c30);(try clear c32);(try clear c32b0);(try clear c32b1);(try clear c33);(try clear c36);(try clear Ug);(try clear Mi);(try clear Jk);(try clear Jn);(try clear Uo);(try clear Mq);(try clear Js);(try clear Uu);(try clear Mx);(try clear p2)
       obtain ⟨x8_2, rfl, HA, HK2, Ka, Ja, HB⟩ := hrel
       cases gk with
       | zero => exact absurd HA.out (by simp [impl_FairJoin.l0])
       | succ k2 =>
        have H := HA.out; clear HA; simp only [impl_FairJoin.l0] at H
        by_cases c38 : x8_2 < (l0_4.length : Int)
        ·rw [if_pos c38] at H
         have c38b0 : decide (x8_2 < (l0_4.length : Int)) = true := decide_eq_true c38; clear c38
         by_cases c39 : 0 ≤ x8_2
         ·rw [if_pos c39] at H
          have c39b0:decide (0≤x8_2)=true:=decide_eq_true c39;clear c39;have HU40:=D H;clear H;(try have:=Mc.out);(try have:=Oc.out);have Ma1:=cells5 Ka.out;have p418:0≤(x8_2:Int):=od_ Z52;have q418:x8_2 < (l0_4.length:Int):=od_ Z52;obtain ⟨ad418,e418,hx418_0,hx418_1,hx418_2,hx418_3,hx418_4,hx418_5⟩:=at_T51 HR0_4.out x8_2 p418 q418;cases e418;replace hx418_0:=rc_ HB.out hx418_0;replace hx418_1:=rc_ HB.out hx418_1;replace hx418_2:=rc_ HB.out hx418_2;replace hx418_3:=rc_ HB.out hx418_3;replace hx418_4:=rc_ HB.out hx418_4;replace hx418_5:=rc_ HB.out hx418_5;replace p418:=eq_true p418;replace q418:=eq_true q418
          go_upto_if 51 with (fail)
          have H := HU40.out; clear HU40
          by_cases c43 : ((rd_T51 l0_4 x8_2).f0) < a1
          ·rw [if_pos c43] at H
           have c43b0:decide (((rd_T51 l0_4 x8_2).f0) < a1)=true:=decide_eq_true c43;clear c43;refine rw_ c43b0 ?_;have H':=D H;clear H
           go_wp2
           go_roundg k2
           case measure => have := HJ3.out; have := HK2.out; omega
           case rel => exact ⟨(wrap64 (x8_2 + 1)), Z53, H', ⟨by have := HJ3.out; have := HK2.out; omega⟩, ⟨pk_ Ka.out⟩, ⟨pk_ Ja.out⟩, ⟨pB_ HB.out⟩⟩
          ·rw [if_neg c43] at H
           have c43b0:decide (((rd_T51 l0_4 x8_2).f0) < a1)=false:=decide_eq_false c43;clear c43;refine rw_ c43b0 ?_;obtain ⟨⟨Kb,Ob,Uc,Jd,Jc⟩,A440,H⟩:=bs_.mp H;(try dsimp only at H);have A44:=D A440;clear A440
           by_cases c45 : x8_2 ≤ (Jc.length : Int)
           ·rw [if_pos c45] at H
            have c45b0 := eq_true c45; have c45b1 : decide (x8_2 ≤ (Jc.length : Int)) = true := decide_eq_true c45; clear c45
            by_cases c46 : Jc.length < 2932031007402
            ·rw [if_pos c46] at H
             have LMc46:=D c46;clear c46;obtain ⟨y427,hy427⟩:∃ y_:List (S51),y_=(Jc.take (x8_2:Int).toNat ++ ([(⟨a1,a2,false,(⟨0,0,0⟩:S31)⟩:S51)] ++ Jc.drop (x8_2:Int).toNat)):=⟨_,rfl⟩
             replace H:(some (Kb,Ob,Uc,Jd,y427,0))=some (r1,r2,r3,r4,r5,r6):=by first|(rw [hy427];with_reducible exact H)|(have H2_:=(Option.bind_some _ _).symm.trans H;rw [hy427];with_reducible exact H2_)|(have H2_:=(Option.bind_some _ _).symm.trans H;with_reducible exact H2_)|with_reducible exact H|(rw [hy427];exact H)|exact H
             have Ny427:=D hy427;clear hy427;simp only [Option.some.injEq,Prod.mk.injEq] at H;obtain ⟨rfl,rfl,rfl,rfl,rfl,rfl⟩:=H;(try have:=Mc.out);(try have:=Oc.out);have Jc1:=cells5 Ka.out
             go_wp2_with (first|((with_reducible refine gate_callee (f:=47) rfl ?_);refine goesL_ (some 55) rfl rfl Try.func47 (by kernel_rfl) rfl #[.agg #[I L a0_0,I L a0_1,I L a0_2,I L a0_3,Y (some ad418) l0_4.length c0_4]] rfl Z21 ?_;(with_reducible refine (impl_copyFair.calls a0_0 a0_1 a0_2 a0_3 _ _ l0_4 Kb Ob Uc Jd Jc _ ?side1 ?side2 A44.out).mono ?_);(case side1=>exact pC_ (Kd.C_below HR0_4.out HB.out));(case side2=>exact HC0_4.out);rintro e w49 ⟨Ud1,rfl,ho0,hb⟩;refine ⟨_,rfl,?_⟩;have n_:=an_ (Kd.R_lower ho0 (below_size (pB_ HB.out)))<|an_ (blk_below (pk_ Ka.out) hb)<|an_ (blk_below (pk_ Ja.out) hb)<|D (below_step (pB_ HB.out) hb);clear Ka Ja HB;obtain ⟨Md,Ka,Ja,HB⟩:=n_;(try clear hb);(try clear ho0))|((with_reducible refine gate_dst (N:=9) rfl ?_);refine bx_ (N:=9) (cs:=#[I L 0,I L 0,I L 0,I L 0,Y none 0 0]) (t:=34) ?_;intro Xa hg w50 hbox hb;have n_:=an_ (Kd.R_below (pR_ Md.out) hb)<|an_ (blk_below (pk_ Ka.out) hb)<|an_ (blk_below (pk_ Ja.out) hb)<|an_ (below_step (pB_ HB.out) hb)<|an_ (hbox)<|an_ (bg_ hg (pB_ HB.out):w.heap.size≤Xa)<|an_ (bg_ hg (pB_ HB.out):w.heap.size≤Xa)<|an_ (nl_ hg (pk_ Ka.out):Xb≠Xa)<|an_ (ng_ hg (pk_ Ka.out):Xa≠Xb)<|an_ (nl_ hg (pk_ Ja.out):Ma≠Xa)<|D (by rw [hg];exact Nat.ne_of_gt (blk_lt (pk_ Ja.out)):Xa≠Ma);clear Md Ka Ja HB;obtain ⟨Md,Ka,Ja,HB,Oa,Xd1,Je1,Ke,Jz,Xd,Kz⟩:=n_;clear hb hbox hg;(try have:=Jz.out);(try have:=Ke.out);(try have:=Kz.out);(try have:=Xd.out);have Ke1:=cells5 Oa.out;obtain ⟨Jf,Kf,eo54⟩:=Kd.R_slice Md.out;subst eo54)|((with_reducible refine gate_callee (f:=48) rfl ?_);have hj_:0≤(x8_2:Int):=od_ Z52;have hl_:(x8_2:Int)≤(Jc.length:Int):=od_ Z52;refine goesL_ (some 63) rfl rfl Try.func48 (by kernel_rfl) rfl #[Y Jf Jc.length Kf,I L x8_2,Y (some ⟨_,0,none⟩) 1 1] rfl Z32 ?_;refine (ins48_ (w0:=w) (base:=w.heap.size) (ok:=(fun _=>True)) (okp:=(fun _=>False)) (xs:=Jc) (p:=(⟨a1,a2,false,(⟨0,0,0⟩:S31)⟩:S51)) (cs:=[I L a1,I L a2,.bool false,I L 0,I L 0,I L 0]) ?aV ?aP (fun _ hk=>hk.elim) ?aF ?aO ?aB ?aS ?aL hj_ hl_).mono ?_;(case aV=>first|rfl|(simp;done)|(go_simp;done));(case aP=>exact k51_mkM _ _ _ (⟨a1,a2,false,(⟨0,0,0⟩:S31)⟩:S51));(case aB=>exact (pB_ HB.out));(case aF=>exact (fun _ _=>trivial));(case aO=>exact (rM_ (Kd.R_types Md.out Oa.out (by decide)) (fun _ hk=>trivial)));(case aS=>exact (below_size (pB_ HB.out)));(case aL=>have:=LMc46.out;omega);rintro e w55 ⟨Xf1,rfl,ho,hb,hg,hat⟩;refine ⟨_,rfl,?_⟩;clear hj_ hl_;rw [← Ny427.out] at ho;have n_:=an_ (blk_grown (g:=Xb) (o:=.cells #[I L a0_0,I L a0_1,I L a0_2,I L a0_3,Y (some ad418) l0_4.length c0_4] 34 (0,0)) (by exact pP_ Ka.out) hg (Kd.R_ne Md.out Ka.out (by decide)))<|an_ (blk_grown (g:=Ma) (o:=.cells #[I L 0,I L 0,I L 0,I L 0,Y none 0 0] 34 (0,0)) (by exact pP_ Ja.out) hg (Kd.R_ne Md.out Ja.out (by decide)))<|an_ (blk_grown (g:=Xa) (o:=.cells #[I L Kb,I L Ob,I L Uc,I L Jd,Y Jf Jc.length Kf] 34 (0,0)) (by exact pP_ Oa.out) hg (Kd.R_ne Md.out Oa.out (by decide)))<|an_ (hb)<|D (ho);clear Ka Ja Oa HB Md;obtain ⟨Ka,Ja,Oa,HB,Um⟩:=n_;clear ho hb hg hat;obtain ⟨Jg,Kg,eo56⟩:=Kd.R_slice Um.out;subst eo56;have Jg1:=cells5 Oa.out;have Uh1:=cells5 Ja.out))
             refine bodyPost_ret (results_ct rfl _ _ Ma 34 #[I L Kb,I L Ob,I L Uc,I L Jd,Y Jg y427.length Kg] (0,0) _ rfl (by exact pP_ Ja.out) Try.underlying34 rfl (by kernel_rfl)) rfl ?_;exact ⟨_,er_,by (with_reducible repeat (first|apply Kd.R_alloc|apply Kd.R_drewN|apply Kd.R_drew));exact Kd.R_mono (fr_ (fr_ (fr_ (fr_ (fr_ (Kd.R_far (p:=⟨Xa,4,none⟩) (Kd.R_types (Kd.R_types Um.out Oa.out (by decide)) Ja.out (by decide)) (fun _ hk=>hk.1.2) (Y Jg y427.length Kg)) 0 (I L Kb)) 1 (I L Ob)) 2 (I L Uc)) 3 (I L Jd)) 4 (Y Jg y427.length Kg)) (fun _ hk=>trivial),pB_ HB.out⟩
            ·rw [if_neg c46] at H
             exact absurd H (by simp)
           ·rw [if_neg c45] at H
            exact absurd H (by simp)
         ·rw [if_neg c39] at H
          exact absurd H (by simp)
        ·rw [if_neg c38] at H
         have c38b0:decide (x8_2 < (l0_4.length:Int))=false:=decide_eq_false c38;clear c38;obtain ⟨⟨Mb,Ub,Xc,Od,Kc⟩,A590,H⟩:=bs_.mp H;(try dsimp only at H);have A59:=D A590;clear A590
         by_cases c60 : 0 ≤ x8_2
         ·rw [if_pos c60] at H
          have c60b0 := eq_true c60; have c60b1 : decide (0 ≤ x8_2) = true := decide_eq_true c60; clear c60
          by_cases c61 : x8_2 ≤ (Kc.length : Int)
          ·rw [if_pos c61] at H
           have c61b0 := eq_true c61; have c61b1 : decide (x8_2 ≤ (Kc.length : Int)) = true := decide_eq_true c61; clear c61
           by_cases c62 : Kc.length < 2932031007402
           ·rw [if_pos c62] at H
            have LMc62:=D c62;clear c62;obtain ⟨y438,hy438⟩:∃ y_:List (S51),y_=(Kc.take (x8_2:Int).toNat ++ ([(⟨a1,a2,false,(⟨0,0,0⟩:S31)⟩:S51)] ++ Kc.drop (x8_2:Int).toNat)):=⟨_,rfl⟩
            replace H:(some (Mb,Ub,Xc,Od,y438,0))=some (r1,r2,r3,r4,r5,r6):=by first|(rw [hy438];with_reducible exact H)|(have H2_:=(Option.bind_some _ _).symm.trans H;rw [hy438];with_reducible exact H2_)|(have H2_:=(Option.bind_some _ _).symm.trans H;with_reducible exact H2_)|with_reducible exact H|(rw [hy438];exact H)|exact H
            have Ny438:=D hy438;clear hy438;simp only [Option.some.injEq,Prod.mk.injEq] at H;obtain ⟨rfl,rfl,rfl,rfl,rfl,rfl⟩:=H;(try have:=Mc.out);(try have:=Oc.out);have Mj1:=cells5 Ka.out
            go_wp2_with (first|((with_reducible refine gate_callee (f:=47) rfl ?_);refine goesL_ (some 55) rfl rfl Try.func47 (by kernel_rfl) rfl #[.agg #[I L a0_0,I L a0_1,I L a0_2,I L a0_3,Y A0_4 l0_4.length c0_4]] rfl Z21 ?_;(with_reducible refine (impl_copyFair.calls a0_0 a0_1 a0_2 a0_3 _ _ l0_4 Mb Ub Xc Od Kc _ ?side1 ?side2 A59.out).mono ?_);(case side1=>exact pC_ (Kd.C_below HR0_4.out HB.out));(case side2=>exact HC0_4.out);rintro e w65 ⟨Jm1,rfl,ho0,hb⟩;refine ⟨_,rfl,?_⟩;have n_:=an_ (Kd.R_lower ho0 (below_size (pB_ HB.out)))<|an_ (blk_below (pk_ Ka.out) hb)<|an_ (blk_below (pk_ Ja.out) hb)<|D (below_step (pB_ HB.out) hb);clear Ka Ja HB;obtain ⟨Ud,Ka,Ja,HB⟩:=n_;(try clear hb);(try clear ho0))|((with_reducible refine gate_dst (N:=9) rfl ?_);refine bx_ (N:=9) (cs:=#[I L 0,I L 0,I L 0,I L 0,Y none 0 0]) (t:=34) ?_;intro Jb hg w66 hbox hb;have n_:=an_ (Kd.R_below (pR_ Ud.out) hb)<|an_ (blk_below (pk_ Ka.out) hb)<|an_ (blk_below (pk_ Ja.out) hb)<|an_ (below_step (pB_ HB.out) hb)<|an_ (hbox)<|an_ (bg_ hg (pB_ HB.out):w.heap.size≤Jb)<|an_ (bg_ hg (pB_ HB.out):w.heap.size≤Jb)<|an_ (nl_ hg (pk_ Ka.out):Xb≠Jb)<|an_ (ng_ hg (pk_ Ka.out):Jb≠Xb)<|an_ (nl_ hg (pk_ Ja.out):Ma≠Jb)<|D (by rw [hg];exact Nat.ne_of_gt (blk_lt (pk_ Ja.out)):Jb≠Ma);clear Ud Ka Ja HB;obtain ⟨Ud,Ka,Ja,HB,Ua,Km1,Mm1,Me,Mz,Je,Oz⟩:=n_;clear hb hbox hg;(try have:=Mz.out);(try have:=Me.out);(try have:=Oz.out);(try have:=Je.out);have Om1:=cells5 Ua.out;obtain ⟨Mf,Of,eo70⟩:=Kd.R_slice Ud.out;subst eo70)|((with_reducible refine gate_callee (f:=48) rfl ?_);have hj_:0≤(x8_2:Int):=od_ Z52;have hl_:(x8_2:Int)≤(Kc.length:Int):=od_ Z52;refine goesL_ (some 63) rfl rfl Try.func48 (by kernel_rfl) rfl #[Y Mf Kc.length Of,I L x8_2,Y (some ⟨_,0,none⟩) 1 1] rfl Z32 ?_;refine (ins48_ (w0:=w) (base:=w.heap.size) (ok:=(fun _=>True)) (okp:=(fun _=>False)) (xs:=Kc) (p:=(⟨a1,a2,false,(⟨0,0,0⟩:S31)⟩:S51)) (cs:=[I L a1,I L a2,.bool false,I L 0,I L 0,I L 0]) ?aV ?aP (fun _ hk=>hk.elim) ?aF ?aO ?aB ?aS ?aL hj_ hl_).mono ?_;(case aV=>first|rfl|(simp;done)|(go_simp;done));(case aP=>exact k51_mkM _ _ _ (⟨a1,a2,false,(⟨0,0,0⟩:S31)⟩:S51));(case aB=>exact (pB_ HB.out));(case aF=>exact (fun _ _=>trivial));(case aO=>exact (rM_ (Kd.R_types Ud.out Ua.out (by decide)) (fun _ hk=>trivial)));(case aS=>exact (below_size (pB_ HB.out)));(case aL=>have:=LMc62.out;omega);rintro e w71 ⟨Ko1,rfl,ho,hb,hg,hat⟩;refine ⟨_,rfl,?_⟩;clear hj_ hl_;rw [← Ny438.out] at ho;have n_:=an_ (blk_grown (g:=Xb) (o:=.cells #[I L a0_0,I L a0_1,I L a0_2,I L a0_3,Y A0_4 l0_4.length c0_4] 34 (0,0)) (by exact pP_ Ka.out) hg (Kd.R_ne Ud.out Ka.out (by decide)))<|an_ (blk_grown (g:=Ma) (o:=.cells #[I L 0,I L 0,I L 0,I L 0,Y none 0 0] 34 (0,0)) (by exact pP_ Ja.out) hg (Kd.R_ne Ud.out Ja.out (by decide)))<|an_ (blk_grown (g:=Jb) (o:=.cells #[I L Mb,I L Ub,I L Xc,I L Od,Y Mf Kc.length Of] 34 (0,0)) (by exact pP_ Ua.out) hg (Kd.R_ne Ud.out Ua.out (by decide)))<|an_ (hb)<|D (ho);clear Ka Ja Ua HB Ud;obtain ⟨Ka,Ja,Ua,HB,Xm⟩:=n_;clear ho hb hg hat;obtain ⟨Mg,Og,eo72⟩:=Kd.R_slice Xm.out;subst eo72;have Mo1:=cells5 Ua.out;have Jq1:=cells5 Ja.out))
            refine bodyPost_ret (results_ct rfl _ _ Ma 34 #[I L Mb,I L Ub,I L Xc,I L Od,Y Mg y438.length Og] (0,0) _ rfl (by exact pP_ Ja.out) Try.underlying34 rfl (by kernel_rfl)) rfl ?_;exact ⟨_,er_,by (with_reducible repeat (first|apply Kd.R_alloc|apply Kd.R_drewN|apply Kd.R_drew));exact Kd.R_mono (fr_ (fr_ (fr_ (fr_ (fr_ (Kd.R_far (p:=⟨Jb,4,none⟩) (Kd.R_types (Kd.R_types Xm.out Ua.out (by decide)) Ja.out (by decide)) (fun _ hk=>hk.1.2) (Y Mg y438.length Og)) 0 (I L Mb)) 1 (I L Ub)) 2 (I L Xc)) 3 (I L Od)) 4 (Y Mg y438.length Og)) (fun _ hk=>trivial),pB_ HB.out⟩
           ·rw [if_neg c62] at H
            exact absurd H (by simp)
          ·rw [if_neg c61] at H
           exact absurd H (by simp)
         ·rw [if_neg c60] at H
          exact absurd H (by simp)

end Go.Proofs.Ytjfknflhajeglab.PFnExactTreeTenant
