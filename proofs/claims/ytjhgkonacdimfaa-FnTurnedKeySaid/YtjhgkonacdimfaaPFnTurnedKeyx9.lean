-- by a program of this session's, over the kit's words
import Derived.Test.YtjhgkonacdimfaaPZFnTurnedKey
import Derived.Test.YtjhgkonacdimfaaPFnTurnedKeyx0
import Derived.Test.YtjhgkonacdimfaaPFnTurnedKeyx4
import Derived.Test.YtjhgkonacdimfaaPFnTurnedKeyx8
namespace Go.Proofs.Ytjhgkonacdimfaa.PFnTurnedKey
open Go.RowKit Go.Proofs.YtjhgkonacdimfaaW.PrintWords Go.Proofs.YtjhgkonacdimfaaW.PrintLast Go.Proofs.YtjhgkonacdimfaaW.PrintMore Go.Proofs.YtjhgkonacdimfaaV Go.Proofs.Ytjhgkonacdimfaa.ZFnTurnedKey
open Go.Value renaming int → I, slice → Y
open Go.IntKind renaming i64 → L
open Aside0 renaming mk → D
open Option renaming bind_eq_some_iff → bs_
attribute [local go_sem] max2_int min2_int max_two min_two max_three min_three max_four min_four   -- for this text's walks alone
set_option linter.unusedVariables false
set_option linter.unusedSimpArgs false

/-! ### spec_l01Cur_badPrefix: function 24 -/
def spec_l01Cur_badPrefix.f (k : Nat) (s0_0 : List Int) (s0_1 s0_2 : Int) : Option (Int × Int × Int × Int × Int × Int × Int × Int) := (spec_l01Cur_kind.f s0_0 s0_1 s0_2).bind fun bt401 => ((spec_l01Cur_prefix.f k s0_0 bt401.2.1 bt401.2.2 bt401.1).bind fun bt404 => ((spec_l01Cur_pick.f s0_0 bt404.2.2.2.2.2.2.1 bt404.2.2.2.2.2.2.2 6).bind fun bt413 => (if bt413.1 = 0 then ((spec_l01Cur_raw.f s0_0 bt413.2.1 bt413.2.2).bind fun bt416 => (some (bt404.1, bt404.2.1, bt404.2.2.1, bt404.2.2.2.1, bt404.2.2.2.2.1, bt416.1, bt416.2.1, bt416.2.2))) else (if bt413.1 = 1 then ((spec_l01Cur_badAddr.f s0_0 bt413.2.1 bt413.2.2).bind fun bt419 => (some (bt419.1, bt419.2.1, bt419.2.2.1, bt419.2.2.2.1, bt419.2.2.2.2.1, bt404.2.2.2.2.2.1, bt419.2.2.2.2.2.1, bt419.2.2.2.2.2.2))) else (if bt413.1 = 2 then ((spec_l01Cur_pick.f s0_0 bt413.2.1 bt413.2.2 3).bind fun bt426 => (some (bt404.1, bt404.2.1, bt404.2.2.1, bt404.2.2.2.1, bt404.2.2.2.2.1, mx 0 (wrap64 (bt404.2.2.2.2.2.1 - bt426.1)), bt426.2.1, bt426.2.2))) else (some (bt404.1, bt404.2.1, bt404.2.2.1, bt404.2.2.2.1, bt404.2.2.2.2.1, bt404.2.2.2.2.2.1, bt413.2.1, bt413.2.2)))))))
def spec_l01Cur_badPrefix.T8 : Bool × List (List Nat × List Nat) := (true, [([], []), ([0], [0]), ([], []), ([2], [2]), ([1, 3], [1, 3]), ([4], [4]), ([0, 1, 2, 3, 4, 5], []), ([6, 5, 3, 0, 1, 2, 3, 4, 5], [5, 6])])
def spec_l01Cur_badPrefix.B8 : List Nat := [0, 1, 0, 4, 15, 31, 63, 127]
theorem spec_l01Cur_badPrefix.tab8 : rtab .any (opsOf Try.f24 8) = spec_l01Cur_badPrefix.T8 := by kernel_rfl
theorem spec_l01Cur_badPrefix.bits8 : waitsOk spec_l01Cur_badPrefix.T8.2 spec_l01Cur_badPrefix.B8 = true := by kernel_rfl
set_option maxHeartbeats 8000000 in
set_option maxRecDepth 100000 in
theorem spec_l01Cur_badPrefix.calls (k g : Nat) (s0_0 : List Int) (s0_1 s0_2 r1 r2 r3 r4 r5 r6 r7 r8 : Int) (w0 w : World) (hI : IsS47 w0 w g s0_0 s0_1 s0_2) (hB : Below w0.heap.size w0 w) (h : spec_l01Cur_badPrefix.f k s0_0 s0_1 s0_2 = some (r1, r2, r3, r4, r5, r6, r7, r8)) :
  Calls Try.prog 24 #[.pointer (some ⟨g,0,none⟩)] w fun e w'=>e=.returned (.agg #[I L r1,I L r2,I L r3,I L r4,I L r5,I L r6])∧IsS47 w0 w' g s0_0 r7 r8∧Below w0.heap.size w0 w'∧KeepBut w w' g none:=by
 have hu27 := Try.underlying27
 have hu25 := Try.underlying25
 have HI0 := D hI
 have HK := D (KeepBut.refl w g none)
 have HL := D hB.size
 clear hI
 have HW0 := D hB.size
 have HB := D hB
 clear hB
 have H:((spec_l01Cur_kind.f s0_0 s0_1 s0_2).bind fun bt401=>((spec_l01Cur_prefix.f k s0_0 bt401.2.1 bt401.2.2 bt401.1).bind fun bt404=>((spec_l01Cur_pick.f s0_0 bt404.2.2.2.2.2.2.1 bt404.2.2.2.2.2.2.2 6).bind fun bt413=>(if bt413.1=0 then ((spec_l01Cur_raw.f s0_0 bt413.2.1 bt413.2.2).bind fun bt416=>(some (bt404.1,bt404.2.1,bt404.2.2.1,bt404.2.2.2.1,bt404.2.2.2.2.1,bt416.1,bt416.2.1,bt416.2.2))) else (if bt413.1=1 then ((spec_l01Cur_badAddr.f s0_0 bt413.2.1 bt413.2.2).bind fun bt419=>(some (bt419.1,bt419.2.1,bt419.2.2.1,bt419.2.2.2.1,bt419.2.2.2.2.1,bt404.2.2.2.2.2.1,bt419.2.2.2.2.2.1,bt419.2.2.2.2.2.2))) else (if bt413.1=2 then ((spec_l01Cur_pick.f s0_0 bt413.2.1 bt413.2.2 3).bind fun bt426=>(some (bt404.1,bt404.2.1,bt404.2.2.1,bt404.2.2.2.1,bt404.2.2.2.2.1,mx 0 (wrap64 (bt404.2.2.2.2.2.1 - bt426.1)),bt426.2.1,bt426.2.2))) else (some (bt404.1,bt404.2.1,bt404.2.2.1,bt404.2.2.2.1,bt404.2.2.2.2.1,bt404.2.2.2.2.2.1,bt413.2.1,bt413.2.2))))))))=some (r1,r2,r3,r4,r5,r6,r7,r8):=h
 clear h
 obtain ⟨⟨Me, Ue, Xe⟩, A20, H⟩ := bs_.mp H
 (try dsimp only at H)
 have A2 := D A20
 clear A20
 obtain ⟨⟨Oa, Ua, Jb, Mb, Ub, Xb, Kd, Md⟩, A30, H⟩ := bs_.mp H
 (try dsimp only at H)
 have A3 := D A30
 clear A30
 obtain ⟨⟨Ob, Od, Ud⟩, A40, H⟩ := bs_.mp H
 (try dsimp only at H)
 have A4 := D A40
 clear A40
 have HU5 := D H
 clear H
 go_enter Try.func24, Try.ntmps24
 go_upto_if 10 with (first|((with_reducible refine gate_dst (N:=2) rfl ?_);refine bx_ (N:=2) (cs:=#[I L 0,I L 0,I L 0,I L 0,I L 0,I L 0]) (t:=27) ?_;intro Xa hg w6 hbox hb;have n_:=an_ (IsS47.below (pU47_ HI0.out) hb)<|an_ (KeepBut.trans (pK_ HK.out) (KeepBut.of_below hb g none) (.inl rfl))<|an_ (below_step (pT47_ HB.out) hb)<|an_ (hbox)<|an_ ((by rw [hg];exact (keep_size (w:=w) (g:=g) (row:=none) (pK_ HK.out)):w.heap.size≤Xa))<|an_ ((Nat.le_trans HW0.out (by rw [hg];exact (keep_size (w:=w) (g:=g) (row:=none) (pK_ HK.out)):w.heap.size≤Xa):w0.heap.size≤Xa))<|an_ ((by rw [hg];exact Nat.ne_of_lt (IsS47.lt (show IsS47 w0 _ g s0_0 s0_1 s0_2 from pS47_ HI0.out)):g≠Xa))<|D (by rw [hg];exact Nat.ne_of_gt (IsS47.lt (show IsS47 w0 _ g s0_0 s0_1 s0_2 from pS47_ HI0.out)):Xa≠g);clear HI0 HK HB;obtain ⟨HI0,HK,HB,Ka,Kg,Mg,Xd,Jc⟩:=n_;clear hb hbox hg)|((with_reducible refine gate_callee (f:=39) rfl ?_);refine goesL_ (some 6) rfl rfl Try.func39 (by kernel_rfl) rfl #[.pointer (some ⟨g,0,none⟩)] rfl Z8 ?_;(with_reducible refine (spec_l01Cur_kind.calls g s0_0 s0_1 s0_2 Me Ue Xe w0 _ ?side1 ?side2 A2.out).mono ?_);(case side1=>exact pS47_ HI0.out);(case side2=>exact pT47_ HB.out);rintro e w7 ⟨rfl,hi,hb,hk⟩;refine ⟨_,rfl,?_⟩;have n_:=an_ (KeepBut.blk hk (pk_ Ka.out) Jc.out (by simp))<|an_ (KeepBut.trans (pK_ HK.out) hk (.inl rfl))<|an_ (hb)<|D (hi);clear Ka HK HB HI0;obtain ⟨Ka,HK,HB,HI0⟩:=n_;(try clear hb);(try clear hk);(try clear hi))|((with_reducible refine gate_callee (f:=40) rfl ?_);refine goesL_ (some 7) rfl rfl Try.func40 (by kernel_rfl) rfl #[.pointer (some ⟨g,0,none⟩),I L Me] rfl Z8 ?_;(with_reducible refine (spec_l01Cur_prefix.calls k g s0_0 Ue Xe Me Oa Ua Jb Mb Ub Xb Kd Md w0 _ ?side1 ?side2 A3.out).mono ?_);(case side1=>exact pS47_ HI0.out);(case side2=>exact pT47_ HB.out);rintro e w8 ⟨rfl,hi,hb,hk⟩;refine ⟨_,rfl,?_⟩;have n_:=an_ (KeepBut.blk hk (pk_ Ka.out) Jc.out (by simp))<|an_ (KeepBut.trans (pK_ HK.out) hk (.inl rfl))<|an_ (hb)<|D (hi);clear Ka HK HB HI0;obtain ⟨Ka,HK,HB,HI0⟩:=n_;(try clear hb);(try clear hk);(try clear hi))|((with_reducible refine gate_dst (N:=3) rfl ?_);refine bx_ (N:=3) (cs:=#[I L 0,I L 0,I L 0,I L 0,I L 0,I L 0]) (t:=27) ?_;intro Ma hg w9 hbox hb;have n_:=an_ (IsS47.below (pU47_ HI0.out) hb)<|an_ (blk_below (pk_ Ka.out) hb)<|an_ (KeepBut.trans (pK_ HK.out) (KeepBut.of_below hb g none) (.inl rfl))<|an_ (below_step (pT47_ HB.out) hb)<|an_ (hbox)<|an_ ((by rw [hg];exact (keep_size (w:=w) (g:=g) (row:=none) (pK_ HK.out)):w.heap.size≤Ma))<|an_ ((Nat.le_trans HW0.out (by rw [hg];exact (keep_size (w:=w) (g:=g) (row:=none) (pK_ HK.out)):w.heap.size≤Ma):w0.heap.size≤Ma))<|an_ (nl_ hg (pk_ Ka.out):Xa≠Ma)<|an_ (ng_ hg (pk_ Ka.out):Ma≠Xa)<|an_ ((by rw [hg];exact Nat.ne_of_lt (IsS47.lt (show IsS47 w0 _ g s0_0 Kd Md from pS47_ HI0.out)):g≠Ma))<|D (by rw [hg];exact Nat.ne_of_gt (IsS47.lt (show IsS47 w0 _ g s0_0 Kd Md from pS47_ HI0.out)):Ma≠g);clear HI0 Ka HK HB;obtain ⟨HI0,Ka,HK,HB,Ja,Og,Ug,Kb,Oc,Xc,Kc⟩:=n_;clear hb hbox hg;(try have:=Oc.out);(try have:=Kb.out);(try have:=Kc.out);(try have:=Xc.out);have Xg:=cells6 Ja.out)|((with_reducible refine gate_callee (f:=22) rfl ?_);refine goesL_ (some 9) rfl rfl Try.func22 (by kernel_rfl) rfl #[.pointer (some ⟨g,0,none⟩),I L 6] rfl Z8 ?_;(with_reducible refine (spec_l01Cur_pick.calls g s0_0 Kd Md 6 Ob Od Ud w0 _ ?side1 ?side2 A4.out).mono ?_);(case side1=>exact pS47_ HI0.out);(case side2=>exact pT47_ HB.out);rintro e w13 ⟨rfl,hi,hb,hk⟩;refine ⟨_,rfl,?_⟩;have n_:=an_ (KeepBut.blk hk (g':=Xa) (o:=.cells #[I L 0,I L 0,I L 0,I L 0,I L 0,I L 0] 27 (0,0)) (by exact pP_ Ka.out) Jc.out (by simp))<|an_ (KeepBut.blk hk (g':=Ma) (o:=.cells #[I L Oa,I L Ua,I L Jb,I L Mb,I L Ub,I L Xb] 27 (0,0)) (by exact pP_ Ja.out) Kc.out (by simp))<|an_ (KeepBut.trans (pK_ HK.out) hk (.inl rfl))<|an_ (hb)<|D (hi);clear Ka Ja HK HB HI0;obtain ⟨Ka,Ja,HK,HB,HI0⟩:=n_;(try clear hb);(try clear hk);(try clear hi)))
 have H := HU5.out
 clear HU5
 by_cases c14 : Ob = 0
 ·rw [if_pos c14] at H
  have c14b0:(Ob == 0)=true:=beq_iff_eq.mpr c14;have c14b1:(Ob != 0)=false:=bne_eq_false_iff_eq.mpr c14;clear c14;refine rw_ c14b0 ?_;obtain ⟨⟨Jf,Of,Uf⟩,A150,H⟩:=bs_.mp H;(try dsimp only at H);have A15:=D A150;clear A150;simp only [Option.some.injEq,Prod.mk.injEq] at H;obtain ⟨rfl,rfl,rfl,rfl,rfl,rfl,rfl,rfl⟩:=H
  go_wp2_with (first|((with_reducible refine gate_callee (f:=23) rfl ?_);refine goesL_ (some 13) rfl rfl Try.func23 (by kernel_rfl) rfl #[.pointer (some ⟨g,0,none⟩)] rfl Z8 ?_;(with_reducible refine (spec_l01Cur_raw.calls g s0_0 Od Ud Jf Of Uf w0 _ ?side1 ?side2 A15.out).mono ?_);(case side1=>exact pS47_ HI0.out);(case side2=>exact pT47_ HB.out);rintro e w16 ⟨rfl,hi,hb,hk⟩;refine ⟨_,rfl,?_⟩;have n_:=an_ (KeepBut.blk hk (pk_ Ka.out) Jc.out (by simp))<|an_ (KeepBut.blk hk (pk_ Ja.out) Kc.out (by simp))<|an_ (KeepBut.trans (pK_ HK.out) hk (.inl rfl))<|an_ (hb)<|D (hi);clear Ka Ja HK HB HI0;obtain ⟨Ka,Ja,HK,HB,HI0⟩:=n_;(try clear hb);(try clear hk);(try clear hi);(try have:=Oc.out);(try have:=Kb.out);(try have:=Kc.out);(try have:=Xc.out);have Xi:=cells6 Ja.out;(try have:=Jc.out);(try have:=Xd.out);have Xk:=cells6 Ka.out))
  refine bodyPost_ret (results_cell_row rfl _ _ Xa 27 #[I L Oa,I L Ua,I L Jb,I L Mb,I L Ub,I L Jf] (0,0) _ rfl Z1 Try.underlying27 rfl (by kernel_rfl)) rfl ?_;exact ⟨er_,pS47_ HI0.out,pT47_ HB.out,pK_ HK.out⟩
 ·rw [if_neg c14] at H
  have c14b0:(Ob == 0)=false:=beq_eq_false_iff_ne.mpr c14;have c14b1:(Ob != 0)=true:=bne_iff_ne.mpr c14;refine rw_ c14b0 ?_
  by_cases c22 : Ob = 1
  ·rw [if_pos c22] at H
   have c22b0:(Ob == 1)=true:=beq_iff_eq.mpr c22;have c22b1:(Ob != 1)=false:=bne_eq_false_iff_eq.mpr c22;clear c22;obtain ⟨⟨Mc,Uc,Jd,Je,Oe,Xf,Jg⟩,A230,H⟩:=bs_.mp H;(try dsimp only at H);have A23:=D A230;clear A230;simp only [Option.some.injEq,Prod.mk.injEq] at H;obtain ⟨rfl,rfl,rfl,rfl,rfl,rfl,rfl,rfl⟩:=H
   go_wp2_with (first|((with_reducible refine gate_callee (f:=26) rfl ?_);refine goesL_ (some 18) rfl rfl Try.func26 (by kernel_rfl) rfl #[.pointer (some ⟨g,0,none⟩)] rfl Z8 ?_;(with_reducible refine (spec_l01Cur_badAddr.calls g s0_0 Od Ud Mc Uc Jd Je Oe Xf Jg w0 _ ?side1 ?side2 A23.out).mono ?_);(case side1=>exact pS47_ HI0.out);(case side2=>exact pT47_ HB.out);rintro e w24 ⟨rfl,hi,hb,hk⟩;refine ⟨_,rfl,?_⟩;have n_:=an_ (KeepBut.blk hk (pk_ Ka.out) Jc.out (by simp))<|an_ (KeepBut.blk hk (pk_ Ja.out) Kc.out (by simp))<|an_ (KeepBut.trans (pK_ HK.out) hk (.inl rfl))<|an_ (hb)<|D (hi);clear Ka Ja HK HB HI0;obtain ⟨Ka,Ja,HK,HB,HI0⟩:=n_;(try clear hb);(try clear hk);(try clear hi);(try have:=Oc.out);(try have:=Kb.out);(try have:=Kc.out);(try have:=Xc.out);have Xn:=cells6 Ja.out;(try have:=Jc.out);(try have:=Xd.out);have Xp:=cells6 Ka.out))
   refine bodyPost_ret (results_cell_row rfl _ _ Xa 27 #[I L Mc,I L Uc,I L Jd,I L Je,I L Oe,I L Xb] (0,0) _ rfl (by exact pP_ Ka.out) Try.underlying27 rfl (by kernel_rfl)) rfl ?_;exact ⟨er_,pS47_ HI0.out,pT47_ HB.out,pK_ HK.out⟩
  ·rw [if_neg c22] at H
   have c22b0 : (Ob == 1) = false := beq_eq_false_iff_ne.mpr c22; have c22b1 : (Ob != 1) = true := bne_iff_ne.mpr c22
   by_cases c30 : Ob = 2
   ·rw [if_pos c30] at H
    have c30b0:(Ob == 2)=true:=beq_iff_eq.mpr c30;have c30b1:(Ob != 2)=false:=bne_eq_false_iff_eq.mpr c30;clear c30;obtain ⟨⟨Ke,Kf,Mf⟩,A310,H⟩:=bs_.mp H;(try dsimp only at H);have A31:=D A310;clear A310;obtain ⟨ji32,hji32⟩:∃ j_:Int,(mx 0 (wrap64 (Xb - Ke)))=j_:=⟨_,rfl⟩
    replace H : (some (Oa, Ua, Jb, Mb, Ub, ji32, Kf, Mf)) = some (r1, r2, r3, r4, r5, r6, r7, r8) := by first | (rw [hji32] at H; exact H) | (simp only [hji32] at H ⊢; exact H)
    (try rw [hji32] at A31);(try (have hji32l:0≤ji32:=by (rw [← hji32];unfold mx;(repeat' split) <;> omega)));(try (have hji32m:0≤ji32:=by omega));have hji32_:(if 0 < (wrap64 (Xb - Ke)) then (wrap64 (Xb - Ke)) else 0)=ji32:=hji32;simp only [Option.some.injEq,Prod.mk.injEq] at H;obtain ⟨rfl,rfl,rfl,rfl,rfl,rfl,rfl,rfl⟩:=H
    try go_wp2
    have n_ := an_ (blk_drew Ka.out) <| an_ (blk_drew Ja.out) <| an_ (IsS47.drew HI0.out) <| an_ (keep_drew HK.out) <| D (below_drew1 HB.out)
    clear Ka Ja HI0 HK HB;obtain ⟨Ka,Ja,HI0,HK,HB⟩:=n_;refine start_ (n:=8) (S:=fun w'=>w'.cell? ⟨Ma,0,none⟩=some (I L Oa)∧w'.cell? ⟨Ma,1,none⟩=some (I L Ua)∧w'.cell? ⟨Ma,2,none⟩=some (I L Jb)∧w'.cell? ⟨Ma,3,none⟩=some (I L Mb)∧w'.cell? ⟨Ma,4,none⟩=some (I L Ub)∧w'.cell? ⟨Ma,5,none⟩=some (I L Xb)) (ds:=[7]) (bz 8 0) (by kernel_rfl) rfl (by kernel_rfl) (be6_ Ja.out) (fun hHeld=>?_);refine with_tabW spec_l01Cur_badPrefix.tab8 spec_l01Cur_badPrefix.bits8 (fun HT_ HW_=>?_);generalize w13.drew=w33 at Ka Ja HI0 HK HB hHeld ⊢;refine pb_ 0 ?_;refine pb_ 2 ?_;refine tb_ 1 rfl rfl hHeld Z14 ?_;refine oa_ 3 25 8 15 HT_ (fun K hK=>?_);refine goes_ Try.func22 (by kernel_rfl) rfl #[.pointer (some ⟨g,0,none⟩),I L 3] (by rfl) rfl rfl Z8 ?_;with_reducible refine (spec_l01Cur_pick.calls g s0_0 Od Ud 3 Ke Kf Mf w0 _ ?side1 ?side2 A31.out).mono ?_
    (case side1 => exact pS47_ HI0.out); (case side2 => exact pT47_ HB.out); rintro e w34 ⟨rfl, hi, hb, hk⟩; refine ⟨_, rfl, ?_⟩
    have n_ := an_ (KeepBut.blk hk (pk_ Ka.out) Jc.out (by simp)) <| an_ (KeepBut.blk hk (pk_ Ja.out) Kc.out (by simp)) <| an_ (KeepBut.trans (pK_ HK.out) hk (.inl rfl)) <| an_ (hb) <| D (hi)
    clear Ka Ja HK HB HI0;obtain ⟨Ka,Ja,HK,HB,HI0⟩:=n_;refine hK.out _ _ (be6_ Ja.out) (fun hHeld=>?_);clear hK K;refine nx_ (N:=some 25) ?_;refine pb_ 4 ?_;refine pb_ 5 ?_;refine pb_ 6 ?_;refine last_ (i:=7) (N:=none) (bz 8 255) rfl rfl (one_of HT_.out (by kernel_rfl)) (by decide) (fun K hK=>?_);have hs35:w34.cell? ⟨Ma,5,none⟩=some (I L Xb):=bc_ Ja.out 5;have hfs35:=blk_frozen Ja.out 5;have hns35_0:=Kb.out;have hms35_0:=Oc.out;refine skip_ (w1:=?_) (by rfl) rfl ?_ ?_;rotate_left
    ·go_simp
     rfl
    refine hK.out _ _ ?_;clear hK K;refine done_ (done_of HT_.out (by kernel_rfl)) ?_;(try have:=Oc.out);(try have:=Kb.out);(try have:=Kc.out);(try have:=Xc.out);have Xr:=cells6 Ja.out;(try have:=Jc.out);(try have:=Xd.out);have Xu:=cells6 Ka.out
    try go_wp2
    refine bodyPost_ret (results_cell_row rfl _ _ Xa 27 #[I L Oa,I L Ua,I L Jb,I L Mb,I L Ub,I L ji32] (0,0) _ rfl Z1 Try.underlying27 rfl (by kernel_rfl)) rfl ?_;exact ⟨by first|rfl|(simp [errW_none,errW_some] <;> rfl)|(simp only [← hji32];first|rfl|(simp [errW_none,errW_some] <;> rfl))|(simp [*,errW_none,errW_some] <;> rfl),pS47_ HI0.out,pT47_ HB.out,pK_ HK.out⟩
   ·rw [if_neg c30] at H
    have c30b0:(Ob == 2)=false:=beq_eq_false_iff_ne.mpr c30;have c30b1:(Ob != 2)=true:=bne_iff_ne.mpr c30;simp only [Option.some.injEq,Prod.mk.injEq] at H;obtain ⟨rfl,rfl,rfl,rfl,rfl,rfl,rfl,rfl⟩:=H;(try have:=Oc.out);(try have:=Kb.out);(try have:=Kc.out);(try have:=Xc.out);have Xx:=cells6 Ja.out;(try have:=Jc.out);(try have:=Xd.out);have Xz:=cells6 Ka.out
    go_wp2
    refine bodyPost_ret (results_cell_row rfl _ _ Xa 27 #[I L Oa,I L Ua,I L Jb,I L Mb,I L Ub,I L Xb] (0,0) _ rfl (by exact pP_ Ka.out) Try.underlying27 rfl (by kernel_rfl)) rfl ?_;exact ⟨er_,pS47_ HI0.out,pT47_ HB.out,pK_ HK.out⟩

end Go.Proofs.Ytjhgkonacdimfaa.PFnTurnedKey
