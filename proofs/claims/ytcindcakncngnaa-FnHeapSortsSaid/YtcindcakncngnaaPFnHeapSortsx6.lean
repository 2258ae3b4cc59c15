-- by a program of this session's, over the kit's words
import Derived.Test.YtcindcakncngnaaPZFnHeapSorts
import Derived.Test.YtcindcakncngnaaPFnHeapSortsx0
import Derived.Test.YtcindcakncngnaaPFnHeapSortsx2
import Derived.Test.YtcindcakncngnaaPFnHeapSortsx5
namespace Go.Proofs.Ytcindcakncngnaa.PFnHeapSorts
open Go.RowKit Go.Proofs.YtcindcakncngnaaW.PrintWords Go.Proofs.YtcindcakncngnaaW.PrintLast Go.Proofs.YtcindcakncngnaaW.PrintMore Go.Proofs.YtcindcakncngnaaV Go.Proofs.Ytcindcakncngnaa.ZFnHeapSorts
open Go.Value renaming int → I, slice → Y
open Go.IntKind renaming i64 → L
open Aside0 renaming mk → D
open Option renaming bind_eq_some_iff → bs_
attribute [local go_sem] max2_int min2_int max_two min_two max_three min_three max_four min_four   -- for this text's walks alone
set_option linter.unusedVariables false
set_option linter.unusedSimpArgs false

/-! ### spec_l01Cur_badHeap: function 12 -/
def spec_l01Cur_badHeap.l0 : Nat → Int → List Int → Int → Int → List (S32) → Option ((List (S32)) × Int × Int)
 | 0, _, _, _, _, _ => none
 | k + 1,x4,x1000,x1001,x1002,x227000=>(spec_l01Cur_pick.f x1000 x1001 x1002 2).bind fun bt244=>(if (x227000.length:Int) < (wrap64 (64 + bt244.1)) then (if x227000.length < 8796093022208 then (spec_l01Cur_badHeap.l0 k (wrap64 (x4 + 1)) x1000 bt244.2.1 bt244.2.2 (x227000 ++ [(⟨1073741824,wrap64 (100 + x4)⟩:S32)])) else (none)) else (some (x227000,bt244.2.1,bt244.2.2)))
def spec_l01Cur_badHeap.f (k : Nat) (s0_0 : List Int) (s0_1 s0_2 : Int) : Option ((List (S32)) × Int × Int) := (spec_l01Cur_heap.f k s0_0 s0_1 s0_2).bind fun bt221 => ((spec_l01Cur_pick.f s0_0 bt221.2.1 bt221.2.2 12).bind fun bt227 => (if bt227.1 = 0 then ((spec_l01Cur_item.f s0_0 bt227.2.1 bt227.2.2).bind fun bt230 => (if bt221.1.length < 8796093022208 then (some ((bt221.1 ++ [(⟨bt230.1, bt230.2.1⟩ : S32)]), bt230.2.2.1, bt230.2.2.2)) else (none))) else (if bt227.1 = 1 then (if (bt221.1.length : Int) > 0 then ((spec_l01Cur_pick.f s0_0 bt227.2.1 bt227.2.2 (bt221.1.length : Int)).bind fun bt237 => ((spec_l01Cur_raw.f s0_0 bt237.2.1 bt237.2.2).bind fun bt240 => (if 0 ≤ bt237.1 then (if bt237.1 < (bt221.1.length : Int) then (some ((bt221.1.set (bt237.1 : Int).toNat (⟨bt240.1, (rd_T32 bt221.1 bt237.1).f1⟩ : S32)), bt240.2.1, bt240.2.2)) else (none)) else (none)))) else (some (bt221.1, bt227.2.1, bt227.2.2))) else (if bt227.1 = 2 then (spec_l01Cur_badHeap.l0 k 0 s0_0 bt227.2.1 bt227.2.2 bt221.1) else (if bt227.1 = 3 then (if (bt221.1.length : Int) > 0 then ((spec_l01Cur_pick.f s0_0 bt227.2.1 bt227.2.2 (bt221.1.length : Int)).bind fun bt250 => ((spec_l01Cur_pick.f s0_0 bt250.2.1 bt250.2.2 40).bind fun bt253 => (if 0 ≤ bt250.1 then (if bt250.1 < (bt221.1.length : Int) then (some ((bt221.1.set (bt250.1 : Int).toNat (⟨(rd_T32 bt221.1 bt250.1).f0, bt253.1⟩ : S32)), bt253.2.1, bt253.2.2)) else (none)) else (none)))) else (some (bt221.1, bt227.2.1, bt227.2.2))) else (some (bt221.1, bt227.2.1, bt227.2.2)))))))
def spec_l01Cur_badHeap.T4 : Bool × List (List Nat × List Nat) := (true, [([], []), ([0], [0]), ([], []), ([2], [2]), ([3], [3]), ([1, 4, 3], [1, 4]), ([0, 1, 2, 3, 4, 5], []), ([6, 5, 5, 0, 1, 2, 3, 4, 5], [5, 6])])
def spec_l01Cur_badHeap.B4 : List Nat := [0, 1, 0, 4, 12, 31, 63, 127]
theorem spec_l01Cur_badHeap.tab4 : rtab .any (opsOf Try.f12 4) = spec_l01Cur_badHeap.T4 := by kernel_rfl
theorem spec_l01Cur_badHeap.bits4 : waitsOk spec_l01Cur_badHeap.T4.2 spec_l01Cur_badHeap.B4 = true := by kernel_rfl
def spec_l01Cur_badHeap.T7 : Bool × List (List Nat × List Nat) := (true, [([], []), ([0], [0]), ([], []), ([], []), ([3], [3]), ([4], [4]), ([2, 5], [2, 5]), ([], []), ([7, 6], [7]), ([1, 6, 0, 1, 2, 3, 4, 5, 6, 7, 8], [1, 6]), ([9, 0, 1, 2, 3, 4, 5, 6, 7, 8], [9]), ([10, 8, 8, 0, 1, 2, 3, 4, 5, 6, 7, 8], [8, 10])])
def spec_l01Cur_badHeap.B7 : List Nat := [0, 1, 0, 0, 8, 24, 60, 0, 252, 511, 1023, 2047]
theorem spec_l01Cur_badHeap.tab7 : rtab .any (opsOf Try.f12 7) = spec_l01Cur_badHeap.T7 := by kernel_rfl
theorem spec_l01Cur_badHeap.bits7 : waitsOk spec_l01Cur_badHeap.T7.2 spec_l01Cur_badHeap.B7 = true := by kernel_rfl
def spec_l01Cur_badHeap.T15 : Bool × List (List Nat × List Nat) := (true, [([], []), ([0], [0]), ([], []), ([], []), ([3], [3]), ([4], [4]), ([2, 5], [2, 5]), ([], []), ([7, 6], [7]), ([1, 6, 0, 1, 2, 3, 4, 5, 6, 7, 8], [1, 6]), ([9, 0, 1, 2, 3, 4, 5, 6, 7, 8], [9]), ([10, 8, 8, 0, 1, 2, 3, 4, 5, 6, 7, 8], [8, 10])])
def spec_l01Cur_badHeap.B15 : List Nat := [0, 1, 0, 0, 8, 24, 60, 0, 252, 511, 1023, 2047]
theorem spec_l01Cur_badHeap.tab15 : rtab .any (opsOf Try.f12 15) = spec_l01Cur_badHeap.T15 := by kernel_rfl
theorem spec_l01Cur_badHeap.bits15 : waitsOk spec_l01Cur_badHeap.T15.2 spec_l01Cur_badHeap.B15 = true := by kernel_rfl
set_option maxHeartbeats 8000000 in
set_option maxRecDepth 100000 in
theorem spec_l01Cur_badHeap.calls (k g : Nat) (s0_0 : List Int) (s0_1 s0_2 : Int) (r1 : List (S32)) (r2 r3 : Int) (w0 w : World) (hI : IsS47 w0 w g s0_0 s0_1 s0_2) (hB : Below w0.heap.size w0 w) (h : spec_l01Cur_badHeap.f k s0_0 s0_1 s0_2 = some (r1, r2, r3)) :
  Calls Try.prog 12 #[.pointer (some ⟨g,0,none⟩)] w fun e w'=>∃ v0_:Value,e=.returned (.agg #[v0_])∧Kd.R k32 32 w' w.heap.size (fun _=>True) v0_ r1∧IsS47 w0 w' g s0_0 r2 r3∧Below w0.heap.size w0 w'∧KeepBut w w' g none:=by
 have hu26 := Try.underlying26
 have hu32 := Try.underlying32
 have HI0 := D hI
 have HK := D (KeepBut.refl w g none)
 have HL := D hB.size
 clear hI
 have HW0 := D hB.size
 have HB := D hB
 clear hB
 have H:((spec_l01Cur_heap.f k s0_0 s0_1 s0_2).bind fun bt221=>((spec_l01Cur_pick.f s0_0 bt221.2.1 bt221.2.2 12).bind fun bt227=>(if bt227.1=0 then ((spec_l01Cur_item.f s0_0 bt227.2.1 bt227.2.2).bind fun bt230=>(if bt221.1.length < 8796093022208 then (some ((bt221.1 ++ [(⟨bt230.1,bt230.2.1⟩:S32)]),bt230.2.2.1,bt230.2.2.2)) else (none))) else (if bt227.1=1 then (if (bt221.1.length:Int) > 0 then ((spec_l01Cur_pick.f s0_0 bt227.2.1 bt227.2.2 (bt221.1.length:Int)).bind fun bt237=>((spec_l01Cur_raw.f s0_0 bt237.2.1 bt237.2.2).bind fun bt240=>(if 0≤bt237.1 then (if bt237.1 < (bt221.1.length:Int) then (some ((bt221.1.set (bt237.1:Int).toNat (⟨bt240.1,(rd_T32 bt221.1 bt237.1).f1⟩:S32)),bt240.2.1,bt240.2.2)) else (none)) else (none)))) else (some (bt221.1,bt227.2.1,bt227.2.2))) else (if bt227.1=2 then (spec_l01Cur_badHeap.l0 k 0 s0_0 bt227.2.1 bt227.2.2 bt221.1) else (if bt227.1=3 then (if (bt221.1.length:Int) > 0 then ((spec_l01Cur_pick.f s0_0 bt227.2.1 bt227.2.2 (bt221.1.length:Int)).bind fun bt250=>((spec_l01Cur_pick.f s0_0 bt250.2.1 bt250.2.2 40).bind fun bt253=>(if 0≤bt250.1 then (if bt250.1 < (bt221.1.length:Int) then (some ((bt221.1.set (bt250.1:Int).toNat (⟨(rd_T32 bt221.1 bt250.1).f0,bt253.1⟩:S32)),bt253.2.1,bt253.2.2)) else (none)) else (none)))) else (some (bt221.1,bt227.2.1,bt227.2.2))) else (some (bt221.1,bt227.2.1,bt227.2.2))))))))=some (r1,r2,r3):=h
 clear h
 obtain ⟨⟨Oa, Me, Oe⟩, A20, H⟩ := bs_.mp H
 (try dsimp only at H)
 have A2 := D A20
 clear A20
 obtain ⟨⟨Kb, Ud, Xd⟩, A30, H⟩ := bs_.mp H
 (try dsimp only at H)
 have A3 := D A30
 clear A30
 have HU4 := D H
 clear H
 go_enter Try.func12, Try.ntmps12
 go_upto_if 9 with (first|((with_reducible refine gate_dst (N:=2) rfl ?_);refine bx_ (N:=2) (cs:=#[Y none 0 0]) (t:=26) ?_;intro Ob hg w5 hbox hb;have n_:=an_ (IsS47.below (pU47_ HI0.out) hb)<|an_ (KeepBut.trans (pK_ HK.out) (KeepBut.of_below hb g none) (.inl rfl))<|an_ (below_step (pT47_ HB.out) hb)<|an_ (hbox)<|an_ ((by rw [hg];exact (keep_size (w:=w) (g:=g) (row:=none) (pK_ HK.out)):w.heap.size≤Ob))<|an_ ((Nat.le_trans HW0.out (by rw [hg];exact (keep_size (w:=w) (g:=g) (row:=none) (pK_ HK.out)):w.heap.size≤Ob):w0.heap.size≤Ob))<|an_ ((by rw [hg];exact Nat.ne_of_lt (IsS47.lt (show IsS47 w0 _ g s0_0 s0_1 s0_2 from pS47_ HI0.out)):g≠Ob))<|D (by rw [hg];exact Nat.ne_of_gt (IsS47.lt (show IsS47 w0 _ g s0_0 s0_1 s0_2 from pS47_ HI0.out)):Ob≠g);clear HI0 HK HB;obtain ⟨HI0,HK,HB,Ka,Oh,Uh,Od,Xb⟩:=n_;clear hb hbox hg)|((with_reducible refine gate_callee (f:=23) rfl ?_);refine goesL_ (some 6) rfl rfl Try.func23 (by kernel_rfl) rfl #[.pointer (some ⟨g,0,none⟩)] rfl Z9 ?_;(with_reducible refine (spec_l01Cur_heap.calls k g s0_0 s0_1 s0_2 Oa Me Oe w0 _ ?side1 ?side2 A2.out).mono ?_);(case side1=>exact pS47_ HI0.out);(case side2=>exact pT47_ HB.out);rintro e w6 ⟨Kn,rfl,ho0,hi,hb,hk⟩;refine ⟨_,rfl,?_⟩;have n_:=an_ (KeepBut.blk hk (pk_ Ka.out) Xb.out (by simp))<|an_ (Kd.R_lower ho0 (keep_size (w:=w) (g:=g) (row:=none) (pK_ HK.out)))<|an_ (KeepBut.trans (pK_ HK.out) hk (.inl rfl))<|an_ (hb)<|D (hi);clear Ka HK HB HI0;obtain ⟨Ka,Ma,HK,HB,HI0⟩:=n_;(try clear hb);(try clear hk);(try clear hi);(try clear ho0))|((with_reducible refine gate_dst (N:=3) rfl ?_);refine bx_ (N:=3) (cs:=#[Y none 0 0]) (t:=26) ?_;intro Mb hg w7 hbox hb;have n_:=an_ (Kd.R_below (pR_ Ma.out) hb)<|an_ (IsS47.below (pU47_ HI0.out) hb)<|an_ (blk_below (pk_ Ka.out) hb)<|an_ (KeepBut.trans (pK_ HK.out) (KeepBut.of_below hb g none) (.inl rfl))<|an_ (below_step (pT47_ HB.out) hb)<|an_ (hbox)<|an_ ((by rw [hg];exact (keep_size (w:=w) (g:=g) (row:=none) (pK_ HK.out)):w.heap.size≤Mb))<|an_ ((Nat.le_trans HW0.out (by rw [hg];exact (keep_size (w:=w) (g:=g) (row:=none) (pK_ HK.out)):w.heap.size≤Mb):w0.heap.size≤Mb))<|an_ (nl_ hg (pk_ Ka.out):Ob≠Mb)<|an_ (ng_ hg (pk_ Ka.out):Mb≠Ob)<|an_ ((by rw [hg];exact Nat.ne_of_lt (IsS47.lt (show IsS47 w0 _ g s0_0 Me Oe from pS47_ HI0.out)):g≠Mb))<|D (by rw [hg];exact Nat.ne_of_gt (IsS47.lt (show IsS47 w0 _ g s0_0 Me Oe from pS47_ HI0.out)):Mb≠g);clear Ma HI0 Ka HK HB;obtain ⟨Ma,HI0,Ka,HK,HB,Ja,Xh,Ji,Oc,Md,Jd,Ub⟩:=n_;clear hb hbox hg;obtain ⟨Mc,Jb,eo8⟩:=Kd.R_slice Ma.out;subst eo8;(try have:=Md.out);(try have:=Oc.out);(try have:=Ub.out);(try have:=Jd.out);have Oj:=cells1 Ja.out)|((with_reducible refine gate_callee (f:=24) rfl ?_);refine goesL_ (some 8) rfl rfl Try.func24 (by kernel_rfl) rfl #[.pointer (some ⟨g,0,none⟩),I L 12] rfl Z9 ?_;(with_reducible refine (spec_l01Cur_pick.calls g s0_0 Me Oe 12 Kb Ud Xd w0 _ ?side1 ?side2 A3.out).mono ?_);(case side1=>exact pS47_ HI0.out);(case side2=>exact pT47_ HB.out);rintro e w12 ⟨rfl,hi,hb,hk⟩;refine ⟨_,rfl,?_⟩;have n_:=an_ (KeepBut.blk hk (g':=Ob) (o:=.cells #[Y none 0 0] 26 (0,0)) (by exact pP_ Ka.out) Xb.out (by simp))<|an_ (Kd.R_mono (Kd.R_keep (IsS47.apart (show IsS47 w0 _ g s0_0 Me Oe from pS47_ HI0.out) (rM_ (Kd.R_types Ma.out Ja.out (by decide)) (fun _ h_=>h_.1)) (by decide)) hk (fun _ h=>h.2)) (fun _ h=>h.1))<|an_ (KeepBut.blk hk (g':=Mb) (o:=.cells #[Y Mc Oa.length Jb] 26 (0,0)) Z13 Ub.out (by simp))<|an_ (KeepBut.trans (pK_ HK.out) hk (.inl rfl))<|an_ (hb)<|D (hi);clear Ka Ma Ja HK HB HI0;obtain ⟨Ka,Ma,Ja,HK,HB,HI0⟩:=n_;(try clear hb);(try clear hk);(try clear hi)))
 have H := HU4.out
 clear HU4
 by_cases c13 : Kb = 0
 ·rw [if_pos c13] at H
  have c13b0:(Kb == 0)=true:=beq_iff_eq.mpr c13;have c13b1:(Kb != 0)=false:=bne_eq_false_iff_eq.mpr c13;clear c13;refine rw_ c13b0 ?_;obtain ⟨⟨Ue,Xe,Ki,Mi⟩,A140,H⟩:=bs_.mp H;(try dsimp only at H);have A14:=D A140;clear A140
  by_cases c15 : Oa.length < 8796093022208
  ·rw [if_pos c15] at H
   have LMc15 := D c15; clear c15; obtain ⟨y234, hy234⟩ : ∃ y_ : List (S32), y_ = (Oa ++ [(⟨Ue, Xe⟩ : S32)]) := ⟨_, rfl⟩
   replace H:(some (y234,Ki,Mi))=some (r1,r2,r3):=by first|(rw [hy234];with_reducible exact H)|(have H2_:=(Option.bind_some _ _).symm.trans H;rw [hy234];with_reducible exact H2_)|(have H2_:=(Option.bind_some _ _).symm.trans H;with_reducible exact H2_)|with_reducible exact H|(rw [hy234];exact H)|exact H
   have Ny234 := D hy234; clear hy234; simp only [Option.some.injEq, Prod.mk.injEq] at H; obtain ⟨rfl, rfl, rfl⟩ := H
   try go_wp2
   have n_ := an_ (Kd.R_drew Ma.out) <| an_ (blk_drew Ka.out) <| an_ (blk_drew Ja.out) <| an_ (IsS47.drew HI0.out) <| an_ (keep_drew HK.out) <| D (below_drew1 HB.out)
   clear Ma Ka Ja HI0 HK HB;obtain ⟨Ma,Ka,Ja,HI0,HK,HB⟩:=n_;refine start_ (n:=8) (S:=fun w'=>w'.cell? ⟨Mb,0,none⟩=some (Y Mc Oa.length Jb)) (ds:=[7]) (bz 8 0) (by kernel_rfl) rfl (by kernel_rfl) (bc_ Ja.out 0) (fun hHeld=>?_);refine with_tabW spec_l01Cur_badHeap.tab4 spec_l01Cur_badHeap.bits4 (fun HT_ HW_=>?_);generalize w12.drew=w16 at Ma Ka Ja HI0 HK HB hHeld ⊢;refine pb_ 0 ?_;refine pb_ 2 ?_;refine tb_ 1 rfl rfl hHeld Z25 ?_;refine oa_ 3 14 8 15 HT_ (fun K hK=>?_);refine goes_ Try.func25 (by kernel_rfl) rfl #[.pointer (some ⟨g,0,none⟩)] (by rfl) rfl rfl Z9 ?_;with_reducible refine (spec_l01Cur_item.calls g s0_0 Ud Xd Ue Xe Ki Mi w0 _ ?side1 ?side2 A14.out).mono ?_
   (case side1 => exact pS47_ HI0.out); (case side2 => exact pT47_ HB.out); rintro e w17 ⟨rfl, hi, hb, hk⟩; refine ⟨_, rfl, ?_⟩
   have n_:=an_ (KeepBut.blk hk (pk_ Ka.out) Xb.out (by simp))<|an_ (Kd.R_mono (Kd.R_keep (IsS47.apart (show IsS47 w0 _ g s0_0 Ud Xd from pS47_ HI0.out) (pR_ Ma.out) (by decide)) hk (fun _ h=>h.2)) (fun _ h=>h.1))<|an_ (KeepBut.blk hk (pk_ Ja.out) Ub.out (by simp))<|an_ (KeepBut.trans (pK_ HK.out) hk (.inl rfl))<|an_ (hb)<|D (hi)
   clear Ka Ma Ja HK HB HI0;obtain ⟨Ka,Ma,Ja,HK,HB,HI0⟩:=n_;refine hK.out _ _ (bc_ Ja.out 0) (fun hHeld=>?_);clear hK K;refine nx_ (N:=some 14) ?_;refine oa_ 4 15 8 31 HT_ (fun K hK=>?_);refine value_ (w1:=?_) (v:=?_) (by rfl) rfl ?_ ?_;rotate_left 2
   ·go_simp
    constructor
    ·rfl
    ·rfl
   refine hK.out _ _ ((blk_cell (blk_alloc Ja.out _) 0).trans rfl) (fun hHeld=>?_);clear hK K;refine nx_ (N:=some 15) ?_;refine oa_ 5 16 8 63 HT_ (fun K hK=>?_);refine Kd.R_append_step k32 w.heap.size (by rfl) (.tmp 12) (.tmp 15) 24 32 (.agg #[(I L 0),(I L 0)]) 16 rfl Try.underlying24 info32 rfl (by decide) (by omega) (Y Mc Oa.length Jb) Oa (⟨Ue,Xe⟩:S32) [I L Ue,I L Xe] (fun _=>True) (fun _=>False) rfl rfl ?aP (fun _ hk=>hk.elim) ?aF ?aO (Below.refl _ _) ?aS ?aL ?_;(case aP=>exact k32_mkM _ _ _ (⟨Ue,Xe⟩:S32));(case aF=>exact (fun _ _=>trivial));(case aO=>exact (pR_ Ma.out));(case aS=>exact (keep_size (w:=w) (g:=g) (row:=none) (pK_ HK.out)));(case aL=>have:=LMc15.out;omega);intro Mn w18 ho hb hg hat;rw [← Ny234.out] at ho
   have n_:=an_ (IsS47.grown (pU47_ HI0.out) hg (IsS47.own_ne HI0.out Ma.out (by decide)))<|an_ (blk_grown (pk_ Ka.out) hg (Kd.R_ne Ma.out Ka.out (by decide)))<|an_ (blk_grown (pk_ Ja.out) hg (Kd.R_ne Ma.out Ja.out (by decide)))<|an_ (below_weaken (pT47_ HB.out) HL.out hb)<|an_ (KeepBut.trans (pK_ HK.out) (KeepBut.of_grown hg g) (Kd.R_base2 Ma.out))<|D (ho)
   clear HI0 Ka Ja HB HK Ma;obtain ⟨HI0,Ka,Ja,HB,HK,Oi⟩:=n_;clear ho hb hg hat;obtain ⟨Of,Uf,eo19⟩:=Kd.R_slice Oi.out;(first|subst eo19|obtain ⟨rfl,rfl⟩:=sl_inj eo19);refine hK.out _ _ (bc_ Ja.out 0) (fun hHeld=>?_);clear hK K;refine nx_ (N:=some 16) ?_;refine pb_ 6 ?_;refine last_ (i:=7) (N:=none) (bz 8 255) rfl rfl (one_of HT_.out (by kernel_rfl)) (by decide) (fun K hK=>?_);have hs20:=cells1 Ja.out;have hns20_0:=Oc.out;have hms20_0:=Md.out;refine skip_ (w1:=?_) (by rfl) rfl ?_ ?_;rotate_left
   ·go_simp
    rfl
   refine hK.out _ _ ?_;clear hK K;refine done_ (done_of HT_.out (by kernel_rfl)) ?_;(try have:=Md.out);(try have:=Oc.out);(try have:=Ub.out);(try have:=Jd.out);have Xj:=cells1 Ja.out;(try have:=Xb.out);(try have:=Od.out);have Kk:=cells1 Ka.out
   try go_wp2
   refine bodyPost_ret (results_cell_row rfl _ _ Ob 26 #[Y Of y234.length Uf] (0,0) _ rfl (by exact pP_ Ka.out) Try.underlying26 rfl (by kernel_rfl)) rfl ?_;exact ⟨_,er_,by (with_reducible repeat (first|apply Kd.R_alloc|apply Kd.R_drewN|apply Kd.R_drew));exact Kd.R_mono (fr_ (Kd.R_far (p:=⟨Mb,0,none⟩) (Kd.R_types (Kd.R_types Oi.out Ja.out (by decide)) Ka.out (by decide)) (fun _ hk=>hk.1.2) (Y Of y234.length Uf)) 0 (Y Of y234.length Uf)) (fun _ hk=>trivial),pS47_ HI0.out,pT47_ HB.out,pK_ HK.out⟩
  ·rw [if_neg c15] at H
   exact absurd H (by simp)
 ·rw [if_neg c13] at H
  have c13b0:(Kb == 0)=false:=beq_eq_false_iff_ne.mpr c13;have c13b1:(Kb != 0)=true:=bne_iff_ne.mpr c13;refine rw_ c13b0 ?_
  by_cases c26 : Kb = 1
  ·rw [if_pos c26] at H
   have c26b0 : (Kb == 1) = true := beq_iff_eq.mpr c26; have c26b1 : (Kb != 1) = false := bne_eq_false_iff_eq.mpr c26; clear c26
   by_cases c27 : (Oa.length : Int) > 0
   ·rw [if_pos c27] at H
    have c27b0:decide (0 < (Oa.length:Int))=true:=decide_eq_true c27;have c27b1:decide (0 < Oa.length)=true:=decide_eq_true (by omega);clear c27;obtain ⟨⟨Ua,Xf,Jg⟩,A280,H⟩:=bs_.mp H;(try dsimp only at H);have A28:=D A280;clear A280;obtain ⟨⟨Uc,Kg,Mg⟩,A290,H⟩:=bs_.mp H;(try dsimp only at H);have A29:=D A290;clear A290
    by_cases c30 : 0 ≤ Ua
    ·rw [if_pos c30] at H
     have c30b0 : decide (0 ≤ Ua) = true := decide_eq_true c30; clear c30
     by_cases c31 : Ua < (Oa.length : Int)
     ·rw [if_pos c31] at H
      have c31b0:decide (Ua < (Oa.length:Int))=true:=decide_eq_true c31;clear c31;obtain ⟨y243,hy243⟩:∃ y_:List (S32),y_=(Oa.set (Ua:Int).toNat (⟨Uc,(rd_T32 Oa Ua).f1⟩:S32)):=⟨_,rfl⟩
      replace H:(some (y243,Kg,Mg))=some (r1,r2,r3):=by first|(rw [hy243];with_reducible exact H)|(have H2_:=(Option.bind_some _ _).symm.trans H;rw [hy243];with_reducible exact H2_)|(have H2_:=(Option.bind_some _ _).symm.trans H;with_reducible exact H2_)|with_reducible exact H|(rw [hy243];exact H)|exact H
      have Ny243:=D hy243;clear hy243;simp only [Option.some.injEq,Prod.mk.injEq] at H;obtain ⟨rfl,rfl,rfl⟩:=H;(try have:=Md.out);(try have:=Oc.out);(try have:=Ub.out);(try have:=Jd.out);have Ok:=cells1 Ja.out
      try go_wp2
      have n_ := an_ (Kd.R_drew Ma.out) <| an_ (blk_drew Ka.out) <| an_ (blk_drew Ja.out) <| an_ (IsS47.drew HI0.out) <| an_ (keep_drew HK.out) <| D (below_drew1 HB.out)
      clear Ma Ka Ja HI0 HK HB;obtain ⟨Ma,Ka,Ja,HI0,HK,HB⟩:=n_;refine start_ (n:=12) (S:=fun w'=>w'.cell? ⟨Mb,0,none⟩=some (Y Mc Oa.length Jb)) (ds:=[11]) (bz 12 0) (by kernel_rfl) rfl (by kernel_rfl) (bc_ Ja.out 0) (fun hHeld=>?_);refine with_tabW spec_l01Cur_badHeap.tab7 spec_l01Cur_badHeap.bits7 (fun HT_ HW_=>?_);generalize w12.drew=w36 at Ma Ka Ja HI0 HK HB hHeld ⊢;refine pb_ 0 ?_;refine pb_ 2 ?_;refine pb_ 3 ?_;refine pb_ 7 ?_;refine tb_ 1 rfl rfl hHeld Z25 ?_;refine tb_ 4 rfl rfl hHeld Z25 ?_;refine pb_ 5 ?_;refine oa_ 6 30 12 255 HT_ (fun K hK=>?_);refine goes_ Try.func24 (by kernel_rfl) rfl #[.pointer (some ⟨g,0,none⟩),I L (Oa.length:Int)] (by rfl) rfl rfl Z9 ?_;with_reducible refine (spec_l01Cur_pick.calls g s0_0 Ud Xd (Oa.length:Int) Ua Xf Jg w0 _ ?side1 ?side2 A28.out).mono ?_
      (case side1 => exact pS47_ HI0.out); (case side2 => exact pT47_ HB.out); rintro e w37 ⟨rfl, hi, hb, hk⟩; refine ⟨_, rfl, ?_⟩
      have n_:=an_ (KeepBut.blk hk (pk_ Ka.out) Xb.out (by simp))<|an_ (Kd.R_mono (Kd.R_keep (IsS47.apart (show IsS47 w0 _ g s0_0 Ud Xd from pS47_ HI0.out) (pR_ Ma.out) (by decide)) hk (fun _ h=>h.2)) (fun _ h=>h.1))<|an_ (KeepBut.blk hk (pk_ Ja.out) Ub.out (by simp))<|an_ (KeepBut.trans (pK_ HK.out) hk (.inl rfl))<|an_ (hb)<|D (hi)
      clear Ka Ma Ja HK HB HI0;obtain ⟨Ka,Ma,Ja,HK,HB,HI0⟩:=n_;refine hK.out _ _ (bc_ Ja.out 0) (fun hHeld=>?_);clear hK K;refine nx_ (N:=some 30) ?_;refine oa_ 8 32 12 511 HT_ (fun K hK=>?_);refine goes_ Try.func26 (by kernel_rfl) rfl #[.pointer (some ⟨g,0,none⟩)] (by rfl) rfl rfl Z9 ?_;with_reducible refine (spec_l01Cur_raw.calls g s0_0 Xf Jg Uc Kg Mg w0 _ ?side1 ?side2 A29.out).mono ?_
      (case side1 => exact pS47_ HI0.out); (case side2 => exact pT47_ HB.out); rintro e w38 ⟨rfl, hi, hb, hk⟩; refine ⟨_, rfl, ?_⟩
      have n_:=an_ (KeepBut.blk hk (pk_ Ka.out) Xb.out (by simp))<|an_ (Kd.R_mono (Kd.R_keep (IsS47.apart (show IsS47 w0 _ g s0_0 Xf Jg from pS47_ HI0.out) (pR_ Ma.out) (by decide)) hk (fun _ h=>h.2)) (fun _ h=>h.1))<|an_ (KeepBut.blk hk (pk_ Ja.out) Ub.out (by simp))<|an_ (KeepBut.trans (pK_ HK.out) hk (.inl rfl))<|an_ (hb)<|D (hi)
      clear Ka Ma Ja HK HB HI0;obtain ⟨Ka,Ma,Ja,HK,HB,HI0⟩:=n_;have p32:0≤(Ua:Int):=od_ Z22;have q32:(Ua:Int) < ((Oa.length:Int):Int):=od_ Z22;obtain ⟨go32,On,eo32,Ui,gl32,cl32,HG32⟩:=Kd.R_form Ma.out (by omega);(first|cases eo32|(injection eo32 with ea_ en_ ec_;(first|subst ea_|(injection ea_ with ea_;subst ea_));subst ec_;clear en_));have GB32:=D Ui;have GG32:=D HG32;clear Ui gl32 HG32;obtain ⟨ce32,hcl32,hM32,hcc32,hfr32⟩:=Kd.R_elem Ma.out z32 (Ua:Int) p32 q32;obtain rfl:=k32_openM hM32;have hx32_0:World.cell? _ ⟨go32,(Ua:Int).toNat * 2,none⟩=some (I L ((rd_T32 Oa Ua).f0)):=hcc32 0 _ rfl;have hx32_1:World.cell? _ ⟨go32,(Ua:Int).toNat * 2 + 1,none⟩=some (I L ((rd_T32 Oa Ua).f1)):=hcc32 1 _ rfl;have hf32_0:World.frozen? _ ⟨go32,(Ua:Int).toNat * 2,none⟩=false:=hfr32 0;have hf32_1:World.frozen? _ ⟨go32,(Ua:Int).toNat * 2 + 1,none⟩=false:=hfr32 1;clear hcl32 hcc32 hfr32 hM32;replace p32:=eq_true p32;replace q32:=eq_true q32;have HN0_go32:=D (show g≠go32 from by have h_:=IsS47.own_ne HI0.out Ma.out (by decide);intro e_;exact h_ (by rw [e_];rfl));obtain ⟨ce39,hcl39,hM39,hcc39,hfr39⟩:=Kd.R_elem Ma.out z32 (Ua:Int) (od_ Z22) (by have h_:(Ua:Int) < ((Oa.length:Int):Int):=od_ Z22;first|exact h_|(have e_:=(Kd.R_reads' Ma.out).1;omega)|simpa using h_);obtain rfl:=k32_openM hM39;have HP39:=(Kd.R_seg Ma.out (Ua:Int) (od_ Z22) (by have h_:(Ua:Int) < ((Oa.length:Int):Int):=od_ Z22;first|exact h_|(have e_:=(Kd.R_reads' Ma.out).1;omega)|simpa using h_) (seg:=[I L Uc]) (j:=0) hcl39 hcc39 (show 1≤2 from by decide) (x':=(⟨Uc,(rd_T32 Oa Ua).f1⟩:S32)) (k32_mkM _ _ _ (⟨Uc,(rd_T32 Oa Ua).f1⟩:S32) ) (fun _ hk=>hk)).1;rw [← Ny243.out] at HP39;have HQ39:=D HP39;clear hcl39 hcc39 hfr39 hM39 HP39;refine hK.out _ _ (bc_ Ja.out 0) (fun hHeld=>?_);clear hK K;refine nx_ (N:=some 32) ?_;refine pb_ 9 ?_;refine pb_ 10 ?_;refine last_ (i:=11) (N:=none) (bz 12 4095) rfl rfl (one_of HT_.out (by kernel_rfl)) (by decide) (fun K hK=>?_);refine skip_ (w1:=?_) (by rfl) rfl ?_ ?_;rotate_left
      ·go_simp
       rfl
      refine hK.out _ _ ?_;clear hK K;refine done_ (done_of HT_.out (by kernel_rfl)) ?_;have n0_:Aside0 (Kd.R k32 32 (w38.setCell ⟨go32,(Ua:Int).toNat * 2,none⟩ (I L Uc)) w.heap.size (fun _=>True) (Y (some ⟨go32,0,none⟩) Oa.length Jb) y243):=⟨pR_ HQ39.out⟩;have n1_:Aside0 ((w38.setCell ⟨go32,(Ua:Int).toNat * 2,none⟩ (I L Uc)).heap[Ob]?=some (.cells #[Y none 0 0] 26 (0,0))):=⟨by refine pk_ ?_;refine blk_far ?_ Z29 _;refine pk_ ?_;exact Ka.out⟩;have n2_:Aside0 ((w38.setCell ⟨go32,(Ua:Int).toNat * 2,none⟩ (I L Uc)).heap[Mb]?=some (.cells #[Y (some ⟨go32,0,none⟩) Oa.length Jb] 26 (0,0))):=⟨by refine pk_ ?_;refine blk_far ?_ Z30 _;refine pk_ ?_;exact Ja.out⟩;have n3_:Aside0 (IsS47 w0 (w38.setCell ⟨go32,(Ua:Int).toNat * 2,none⟩ (I L Uc)) g s0_0 Kg Mg):=⟨by repeat (first|(with_reducible first|exact HI0.out|apply IsS47.alloc|apply IsS47.drewN|apply IsS47.drew|apply IsS47.set_1|apply IsS47.set_2|refine IsS47.far ?_ HN0_go32.out _|refine IsS47.far ?_ Od.out _|refine IsS47.far ?_ Jd.out _)|exact HI0.out)⟩;have n4_:Aside0 (KeepBut w (w38.setCell ⟨go32,(Ua:Int).toNat * 2,none⟩ (I L Uc)) g none):=⟨by repeat (first|(with_reducible first|exact HK.out|apply KeepBut.set_|apply keep_drewN|apply keep_drew|apply keep_alloc|refine keep_far ?_ GB32.out _|refine keep_far ?_ Oh.out _|refine keep_far ?_ Xh.out _)|exact HK.out)⟩;have n5_:Aside0 (Below w0.heap.size w0 (w38.setCell ⟨go32,(Ua:Int).toNat * 2,none⟩ (I L Uc))):=⟨by repeat (first|(with_reducible first|exact HB.out|apply below_alloc|apply pw_below_drewN|apply below_drew1|refine below_set ?_ (Nat.le_trans HL.out GB32.out)|refine below_set ?_ (IsS47.ge HI0.out)|refine below_set ?_ Uh.out|refine below_set ?_ Ji.out)|exact HB.out)⟩;(try clear Ma);(try clear Ka);(try clear Ja);(try clear HI0);(try clear HK);(try clear HB);generalize (w38.setCell ⟨go32,(Ua:Int).toNat * 2,none⟩ (I L Uc))=w40 at n0_ n1_ n2_ n3_ n4_ n5_ ⊢;have Ma:=n0_;have Ka:=n1_;have Ja:=n2_;have HI0:=n3_;have HK:=n4_;have HB:=n5_;clear n0_ n1_ n2_ n3_ n4_ n5_;have Xk:=cells1 Ja.out;(try have:=Xb.out);(try have:=Od.out);have Km:=cells1 Ka.out
      try go_wp2
      refine bodyPost_ret (results_cell_row rfl _ _ Ob 26 #[Y (some ⟨go32,0,none⟩) Oa.length Jb] (0,0) _ rfl Z14 Try.underlying26 rfl (by kernel_rfl)) rfl ?_;exact ⟨_,er_,by (with_reducible repeat (first|apply Kd.R_alloc|apply Kd.R_drewN|apply Kd.R_drew));exact Kd.R_mono (fr_ (Kd.R_types Ma.out Ka.out (by decide)) 0 (Y (some ⟨go32,0,none⟩) Oa.length Jb)) (fun _ hk=>trivial),pS47_ HI0.out,pT47_ HB.out,pK_ HK.out⟩
     ·rw [if_neg c31] at H
      exact absurd H (by simp)
    ·rw [if_neg c30] at H
     exact absurd H (by simp)
   ·rw [if_neg c27] at H
    have c27b0:decide (0 < (Oa.length:Int))=false:=decide_eq_false c27;have c27b1:decide (0 < Oa.length)=false:=decide_eq_false (by omega);clear c27;simp only [Option.some.injEq,Prod.mk.injEq] at H;obtain ⟨rfl,rfl,rfl⟩:=H;(try have:=Md.out);(try have:=Oc.out);(try have:=Ub.out);(try have:=Jd.out);have Om:=cells1 Ja.out;(try have:=Xb.out);(try have:=Od.out);have Xm:=cells1 Ka.out
    go_wp2
    refine bodyPost_ret (results_cell_row rfl _ _ Ob 26 #[Y Mc Oa.length Jb] (0,0) _ rfl Z14 Try.underlying26 rfl (by kernel_rfl)) rfl ?_;exact ⟨_,er_,by (with_reducible repeat (first|apply Kd.R_alloc|apply Kd.R_drewN|apply Kd.R_drew));exact Kd.R_mono (fr_ (Kd.R_types Ma.out Ka.out (by decide)) 0 (Y Mc Oa.length Jb)) (fun _ hk=>trivial),pS47_ HI0.out,pT47_ HB.out,pK_ HK.out⟩
  ·rw [if_neg c26] at H
   have c26b0 : (Kb == 1) = false := beq_eq_false_iff_ne.mpr c26; have c26b1 : (Kb != 1) = true := bne_iff_ne.mpr c26
   by_cases c49 : Kb = 2
   ·rw [if_pos c49] at H
    have c49b0 : (Kb == 2) = true := beq_iff_eq.mpr c49; have c49b1 : (Kb != 2) = false := bne_eq_false_iff_eq.mpr c49; clear c49; have H' := D H; clear H
    go_wp2
    go_loopg [4] k (fun kq v4 w'=>∃ (x4_1:Int) (Jf:Int) (Kf:Int) (Jc:List (S32)) (u227000:Value),v4=I L x4_1∧Aside0 (spec_l01Cur_badHeap.l0 kq x4_1 s0_0 Jf Kf Jc=some (r1,r2,r3))∧Aside0 (kq≤k)∧Aside0 (Kd.R k32 32 w' w.heap.size (fun _=>True) u227000 Jc)∧Aside0 (w'.heap[Ob]?=some (.cells #[(Y none 0 0)] 26 (0,0)))∧Aside0 (w'.heap[Mb]?=some (.cells #[u227000] 26 (0,0)))∧Aside0 (IsS47 w0 w' g s0_0 Jf Kf)∧Aside0 (KeepBut w w' g none)∧Aside0 (Below w0.heap.size w0 w'))
    case atStart => exact ⟨(0), (Ud), (Xd), (Oa), (Y Mc Oa.length Jb), Z23, H', ⟨Nat.le_refl _⟩, ⟨pR_ Ma.out⟩, ⟨pk_ Ka.out⟩, ⟨pk_ Ja.out⟩, ⟨pS47_ HI0.out⟩, ⟨pK_ HK.out⟩, ⟨pT47_ HB.out⟩⟩
    case round =>
     clear H'
     (try clear c1);(try clear c2);(try clear p2);(try clear c3);(try clear p3);(try clear q3);(try clear hx3);(try clear hf3);(try clear c4);(try clear c9);(try clear c10);(try clear c12);(try clear c13);(try clear c13b0);(try clear c13b1);(try clear c15);(try clear c21);(try clear c22);(try clear c23);(try clear c24);(try clear c25);(try clear c26);(try clear c26b0);(try clear c26b1);(try clear c27);(try clear c27b0);(try clear c27b1);(try clear c30);(try clear c30b0);(try clear c31);(try clear c31b0);(try clear c32);(try clear p32);(try clear q32);(try clear hx32);(try clear hf32);(try clear c33);(try clear c34);(try clear c39);(try clear c42);(try clear c44);(try clear c45);(try clear c47);(try clear c49);(try clear c49b0);(try clear c49b1);(try clear Oj);(try clear Xj);(try clear Kk);(try clear Ok);(try clear Xk);(try clear Km);(try clear Om);(try clear Xm);(try clear hx32_0 hx32_1);(try clear p32);(try clear q32)
     obtain ⟨x4_1, Jf, Kf, Jc, u227000, rfl, HA, HK1, Kc, Ka, Ja, HI0, HK, HB⟩ := hrel
     cases gk with
     | zero => exact absurd HA.out (by simp [spec_l01Cur_badHeap.l0])
     | succ k1 =>
      have H:=HA.out;clear HA;simp only [spec_l01Cur_badHeap.l0] at H;obtain ⟨⟨Mf,Og,Ug⟩,A500,H⟩:=bs_.mp H;(try dsimp only at H);have A50:=D A500;clear A500;have HU51:=D H;clear H
      try go_wp2
      have n_ := an_ (Kd.R_drew Kc.out) <| an_ (blk_drew Ka.out) <| an_ (blk_drew Ja.out) <| an_ (IsS47.drew HI0.out) <| an_ (keep_drew HK.out) <| D (below_drew1 HB.out)
      clear Kc Ka Ja HI0 HK HB;obtain ⟨Kc,Ka,Ja,HI0,HK,HB⟩:=n_;obtain ⟨Je,Ke,eo53⟩:=Kd.R_slice Kc.out;(first|subst eo53|obtain ⟨rfl,rfl⟩:=sl_inj eo53);refine start_ (n:=7) (S:=fun w'=>w'.cell? ⟨Mb,0,none⟩=some (Y Je Jc.length Ke)) (ds:=[]) (bz 7 0) (by kernel_rfl) rfl (by kernel_rfl) (bc_ Ja.out 0) (fun hHeld=>?_);generalize wr.drew=w52 at Kc Ka Ja HI0 HK HB hHeld ⊢;refine px_ (i:=0) (N:=some 37) (bz 7 1) (by kernel_rfl) ?_;refine px_ (i:=3) (N:=some 40) (bz 7 9) (by kernel_rfl) ?_;refine tx_ (i:=1) (N:=some 38) (bz 7 11) rfl rfl (by kernel_rfl) hHeld Z25 ?_;refine px_ (i:=2) (N:=some 39) (bz 7 15) (by kernel_rfl) ?_;refine one_ (i:=4) (N:=some 41) (bz 7 31) rfl rfl (by kernel_rfl) (by decide) (fun K hK=>?_);refine goes_ Try.func24 (by kernel_rfl) rfl #[.pointer (some ⟨g,0,none⟩),I L 2] (by rfl) rfl rfl Z9 ?_;with_reducible refine (spec_l01Cur_pick.calls g s0_0 Jf Kf 2 Mf Og Ug w0 _ ?side1 ?side2 A50.out).mono ?_
      (case side1 => exact pS47_ HI0.out); (case side2 => exact pT47_ HB.out); rintro e w54 ⟨rfl, hi, hb, hk⟩; refine ⟨_, rfl, ?_⟩
      have n_:=an_ (Kd.R_mono (Kd.R_keep (IsS47.apart (show IsS47 w0 _ g s0_0 Jf Kf from pS47_ HI0.out) (pR_ Kc.out) (by decide)) hk (fun _ h=>h.2)) (fun _ h=>h.1))<|an_ (KeepBut.blk hk (pk_ Ka.out) Xb.out (by simp))<|an_ (KeepBut.blk hk (pk_ Ja.out) Ub.out (by simp))<|an_ (KeepBut.trans (pK_ HK.out) hk (.inl rfl))<|an_ (hb)<|D (hi)
      clear Kc Ka Ja HK HB HI0;obtain ⟨Kc,Ka,Ja,HK,HB,HI0⟩:=n_;refine hK.out _ _ (bc_ Ja.out 0) (fun hHeld=>?_);clear hK K;refine nx_ (N:=some 41) ?_;refine px_ (i:=5) (N:=some 42) (bz 7 63) (by kernel_rfl) ?_;refine px_ (i:=6) (N:=some 43) (bz 7 127) (by kernel_rfl) ?_;refine done_ (by kernel_rfl) ?_
      go_upto_if 43 with (fail)
      have H := HU51.out; clear HU51
      by_cases c55 : (Jc.length : Int) < (wrap64 (64 + Mf))
      ·rw [if_pos c55] at H
       have c55b0:decide ((Jc.length:Int) < (wrap64 (64 + Mf)))=true:=decide_eq_true c55;clear c55;refine rw_ c55b0 ?_
       by_cases c56 : Jc.length < 8796093022208
       ·rw [if_pos c56] at H
        have LMc56 := D c56; clear c56; obtain ⟨y247, hy247⟩ : ∃ y_ : List (S32), y_ = (Jc ++ [(⟨1073741824, wrap64 (100 + x4_1)⟩ : S32)]) := ⟨_, rfl⟩
        replace H:(spec_l01Cur_badHeap.l0 k1 (wrap64 (x4_1 + 1)) s0_0 Og Ug y247)=some (r1,r2,r3):=by first|(rw [hy247];with_reducible exact H)|(have H2_:=(Option.bind_some _ _).symm.trans H;rw [hy247];with_reducible exact H2_)|(have H2_:=(Option.bind_some _ _).symm.trans H;with_reducible exact H2_)|with_reducible exact H|(rw [hy247];exact H)|exact H
        have Ny247:=D hy247;clear hy247;have H':=D H;clear H;(try have:=Md.out);(try have:=Oc.out);(try have:=Ub.out);(try have:=Jd.out);have Un:=cells1 Ja.out
        go_wp2_with (first|((with_reducible refine gate_builtin (b:=.append) (xs:=#[.tmp 47,.tmp 51]) rfl ?_);at_builtin;refine Kd.R_append k32 w.heap.size rfl (.tmp 47) (.tmp 51) 24 32 (.agg #[(I L 0),(I L 0)]) 16 rfl Try.underlying24 info32 rfl (by decide) (by omega) (Y Je Jc.length Ke) Jc (⟨1073741824,wrap64 (100 + x4_1)⟩:S32) [I L 1073741824,I L (wrap64 (100 + x4_1))] (fun _=>True) (fun _=>False) rfl rfl ?aP (fun _ hk=>hk.elim) ?aF ?aO (Below.refl _ _) ?aS ?aL ?_;(case aP=>exact k32_mkM _ _ _ (⟨1073741824,wrap64 (100 + x4_1)⟩:S32));(case aF=>exact (fun _ _=>trivial));(case aO=>exact (pR_ Kc.out));(case aS=>exact (keep_size (w:=w) (g:=g) (row:=none) (pK_ HK.out)));(case aL=>have:=LMc56.out;omega);intro Jo w60 ho hb hg hat;rw [← Ny247.out] at ho;have n_:=an_ (blk_grown (pk_ Ka.out) hg (Kd.R_ne Kc.out Ka.out (by decide)))<|an_ (blk_grown (pk_ Ja.out) hg (Kd.R_ne Kc.out Ja.out (by decide)))<|an_ (IsS47.grown (pU47_ HI0.out) hg (IsS47.own_ne HI0.out Kc.out (by decide)))<|an_ (below_weaken (pT47_ HB.out) HL.out hb)<|an_ (KeepBut.trans (pK_ HK.out) (KeepBut.of_grown hg g) (Kd.R_base2 Kc.out))<|D (ho);clear Ka Ja HI0 HB HK Kc;obtain ⟨Ka,Ja,HI0,HB,HK,Xi⟩:=n_;clear ho hb hg hat;obtain ⟨Jj,Kj,eo61⟩:=Kd.R_slice Xi.out;subst eo61;have Ko:=cells1 Ja.out))
        go_roundg k1
        case measure => have := HK1.out; omega
        case rel=>exact ⟨(wrap64 (x4_1 + 1)),(Og),(Ug),(y247),(Y Jj y247.length Kj),Z23,H',⟨by have:=HK1.out;omega⟩,⟨rM_ (Kd.R_types Xi.out Ja.out (by decide)) (fun _ hk=>trivial)⟩,⟨pP_ Ka.out⟩,⟨pP_ Ja.out⟩,⟨pS47_ HI0.out⟩,⟨pK_ HK.out⟩,⟨pT47_ HB.out⟩⟩
       ·rw [if_neg c56] at H
        exact absurd H (by simp)
      ·rw [if_neg c55] at H
       have c55b0:decide ((Jc.length:Int) < (wrap64 (64 + Mf)))=false:=decide_eq_false c55;clear c55;refine rw_ c55b0 ?_;simp only [Option.some.injEq,Prod.mk.injEq] at H;obtain ⟨rfl,rfl,rfl⟩:=H;(try have:=Md.out);(try have:=Oc.out);(try have:=Ub.out);(try have:=Jd.out);have Oo:=cells1 Ja.out;(try have:=Xb.out);(try have:=Od.out);have Xo:=cells1 Ka.out
       go_wp2
       refine bodyPost_ret (results_cell_row rfl _ _ Ob 26 #[Y Je Jc.length Ke] (0,0) _ rfl Z14 Try.underlying26 rfl (by kernel_rfl)) rfl ?_;exact ⟨_,er_,by (with_reducible repeat (first|apply Kd.R_alloc|apply Kd.R_drewN|apply Kd.R_drew));exact Kd.R_mono (fr_ (Kd.R_types Kc.out Ka.out (by decide)) 0 (Y Je Jc.length Ke)) (fun _ hk=>trivial),pS47_ HI0.out,pT47_ HB.out,pK_ HK.out⟩
   ·rw [if_neg c49] at H
    have c49b0 : (Kb == 2) = false := beq_eq_false_iff_ne.mpr c49; have c49b1 : (Kb != 2) = true := bne_iff_ne.mpr c49
    by_cases c68 : Kb = 3
    ·rw [if_pos c68] at H
     have c68b0 : (Kb == 3) = true := beq_iff_eq.mpr c68; have c68b1 : (Kb != 3) = false := bne_eq_false_iff_eq.mpr c68; clear c68
     by_cases c69 : (Oa.length : Int) > 0
     ·rw [if_pos c69] at H
      have c69b0:decide (0 < (Oa.length:Int))=true:=decide_eq_true c69;have c69b1:decide (0 < Oa.length)=true:=decide_eq_true (by omega);clear c69;obtain ⟨⟨Xa,Xg,Jh⟩,A700,H⟩:=bs_.mp H;(try dsimp only at H);have A70:=D A700;clear A700;obtain ⟨⟨Xc,Kh,Mh⟩,A710,H⟩:=bs_.mp H;(try dsimp only at H);have A71:=D A710;clear A710
      by_cases c72 : 0 ≤ Xa
      ·rw [if_pos c72] at H
       have c72b0 : decide (0 ≤ Xa) = true := decide_eq_true c72; clear c72
       by_cases c73 : Xa < (Oa.length : Int)
       ·rw [if_pos c73] at H
        have c73b0:decide (Xa < (Oa.length:Int))=true:=decide_eq_true c73;clear c73;obtain ⟨y256,hy256⟩:∃ y_:List (S32),y_=(Oa.set (Xa:Int).toNat (⟨(rd_T32 Oa Xa).f0,Xc⟩:S32)):=⟨_,rfl⟩
        replace H:(some (y256,Kh,Mh))=some (r1,r2,r3):=by first|(rw [hy256];with_reducible exact H)|(have H2_:=(Option.bind_some _ _).symm.trans H;rw [hy256];with_reducible exact H2_)|(have H2_:=(Option.bind_some _ _).symm.trans H;with_reducible exact H2_)|with_reducible exact H|(rw [hy256];exact H)|exact H
        have Ny256:=D hy256;clear hy256;simp only [Option.some.injEq,Prod.mk.injEq] at H;obtain ⟨rfl,rfl,rfl⟩:=H;(try have:=Md.out);(try have:=Oc.out);(try have:=Ub.out);(try have:=Jd.out);have Kp:=cells1 Ja.out
        try go_wp2
        have n_ := an_ (Kd.R_drew Ma.out) <| an_ (blk_drew Ka.out) <| an_ (blk_drew Ja.out) <| an_ (IsS47.drew HI0.out) <| an_ (keep_drew HK.out) <| D (below_drew1 HB.out)
        clear Ma Ka Ja HI0 HK HB;obtain ⟨Ma,Ka,Ja,HI0,HK,HB⟩:=n_;refine start_ (n:=12) (S:=fun w'=>w'.cell? ⟨Mb,0,none⟩=some (Y Mc Oa.length Jb)) (ds:=[11]) (bz 12 0) (by kernel_rfl) rfl (by kernel_rfl) (bc_ Ja.out 0) (fun hHeld=>?_);refine with_tabW spec_l01Cur_badHeap.tab15 spec_l01Cur_badHeap.bits15 (fun HT_ HW_=>?_);generalize w12.drew=w78 at Ma Ka Ja HI0 HK HB hHeld ⊢;refine pb_ 0 ?_;refine pb_ 2 ?_;refine pb_ 3 ?_;refine pb_ 7 ?_;refine tb_ 1 rfl rfl hHeld Z25 ?_;refine tb_ 4 rfl rfl hHeld Z25 ?_;refine pb_ 5 ?_;refine oa_ 6 66 12 255 HT_ (fun K hK=>?_);refine goes_ Try.func24 (by kernel_rfl) rfl #[.pointer (some ⟨g,0,none⟩),I L (Oa.length:Int)] (by rfl) rfl rfl Z9 ?_;with_reducible refine (spec_l01Cur_pick.calls g s0_0 Ud Xd (Oa.length:Int) Xa Xg Jh w0 _ ?side1 ?side2 A70.out).mono ?_
        (case side1 => exact pS47_ HI0.out); (case side2 => exact pT47_ HB.out); rintro e w79 ⟨rfl, hi, hb, hk⟩; refine ⟨_, rfl, ?_⟩
        have n_:=an_ (KeepBut.blk hk (pk_ Ka.out) Xb.out (by simp))<|an_ (Kd.R_mono (Kd.R_keep (IsS47.apart (show IsS47 w0 _ g s0_0 Ud Xd from pS47_ HI0.out) (pR_ Ma.out) (by decide)) hk (fun _ h=>h.2)) (fun _ h=>h.1))<|an_ (KeepBut.blk hk (pk_ Ja.out) Ub.out (by simp))<|an_ (KeepBut.trans (pK_ HK.out) hk (.inl rfl))<|an_ (hb)<|D (hi)
        clear Ka Ma Ja HK HB HI0;obtain ⟨Ka,Ma,Ja,HK,HB,HI0⟩:=n_;refine hK.out _ _ (bc_ Ja.out 0) (fun hHeld=>?_);clear hK K;refine nx_ (N:=some 66) ?_;refine oa_ 8 68 12 511 HT_ (fun K hK=>?_);refine goes_ Try.func24 (by kernel_rfl) rfl #[.pointer (some ⟨g,0,none⟩),I L 40] (by rfl) rfl rfl Z9 ?_;with_reducible refine (spec_l01Cur_pick.calls g s0_0 Xg Jh 40 Xc Kh Mh w0 _ ?side1 ?side2 A71.out).mono ?_
        (case side1 => exact pS47_ HI0.out); (case side2 => exact pT47_ HB.out); rintro e w80 ⟨rfl, hi, hb, hk⟩; refine ⟨_, rfl, ?_⟩
        have n_:=an_ (KeepBut.blk hk (pk_ Ka.out) Xb.out (by simp))<|an_ (Kd.R_mono (Kd.R_keep (IsS47.apart (show IsS47 w0 _ g s0_0 Xg Jh from pS47_ HI0.out) (pR_ Ma.out) (by decide)) hk (fun _ h=>h.2)) (fun _ h=>h.1))<|an_ (KeepBut.blk hk (pk_ Ja.out) Ub.out (by simp))<|an_ (KeepBut.trans (pK_ HK.out) hk (.inl rfl))<|an_ (hb)<|D (hi)
        clear Ka Ma Ja HK HB HI0;obtain ⟨Ka,Ma,Ja,HK,HB,HI0⟩:=n_;have p74:0≤(Xa:Int):=od_ Z22;have q74:(Xa:Int) < ((Oa.length:Int):Int):=od_ Z22;obtain ⟨go74,Op,eo74,Mj,gl74,cl74,HG74⟩:=Kd.R_form Ma.out (by omega);(first|cases eo74|(injection eo74 with ea_ en_ ec_;(first|subst ea_|(injection ea_ with ea_;subst ea_));subst ec_;clear en_));have GB74:=D Mj;have GG74:=D HG74;clear Mj gl74 HG74;obtain ⟨ce74,hcl74,hM74,hcc74,hfr74⟩:=Kd.R_elem Ma.out z32 (Xa:Int) p74 q74;obtain rfl:=k32_openM hM74;have hx74_0:World.cell? _ ⟨go74,(Xa:Int).toNat * 2,none⟩=some (I L ((rd_T32 Oa Xa).f0)):=hcc74 0 _ rfl;have hx74_1:World.cell? _ ⟨go74,(Xa:Int).toNat * 2 + 1,none⟩=some (I L ((rd_T32 Oa Xa).f1)):=hcc74 1 _ rfl;have hf74_0:World.frozen? _ ⟨go74,(Xa:Int).toNat * 2,none⟩=false:=hfr74 0;have hf74_1:World.frozen? _ ⟨go74,(Xa:Int).toNat * 2 + 1,none⟩=false:=hfr74 1;clear hcl74 hcc74 hfr74 hM74;replace p74:=eq_true p74;replace q74:=eq_true q74;have HN0_go74:=D (show g≠go74 from by have h_:=IsS47.own_ne HI0.out Ma.out (by decide);intro e_;exact h_ (by rw [e_];rfl));obtain ⟨ce81,hcl81,hM81,hcc81,hfr81⟩:=Kd.R_elem Ma.out z32 (Xa:Int) (od_ Z22) (by have h_:(Xa:Int) < ((Oa.length:Int):Int):=od_ Z22;first|exact h_|(have e_:=(Kd.R_reads' Ma.out).1;omega)|simpa using h_);obtain rfl:=k32_openM hM81;have HP81:=(Kd.R_seg Ma.out (Xa:Int) (od_ Z22) (by have h_:(Xa:Int) < ((Oa.length:Int):Int):=od_ Z22;first|exact h_|(have e_:=(Kd.R_reads' Ma.out).1;omega)|simpa using h_) (seg:=[I L Xc]) (j:=1) hcl81 hcc81 (show 2≤2 from by decide) (x':=(⟨(rd_T32 Oa Xa).f0,Xc⟩:S32)) (k32_mkM _ _ _ (⟨(rd_T32 Oa Xa).f0,Xc⟩:S32) ) (fun _ hk=>hk)).1;rw [← Ny256.out] at HP81;have HQ81:=D HP81;clear hcl81 hcc81 hfr81 hM81 HP81;refine hK.out _ _ (bc_ Ja.out 0) (fun hHeld=>?_);clear hK K;refine nx_ (N:=some 68) ?_;refine pb_ 9 ?_;refine pb_ 10 ?_;refine last_ (i:=11) (N:=none) (bz 12 4095) rfl rfl (one_of HT_.out (by kernel_rfl)) (by decide) (fun K hK=>?_);refine skip_ (w1:=?_) (by rfl) rfl ?_ ?_;rotate_left
        ·go_simp
         rfl
        refine hK.out _ _ ?_;clear hK K;refine done_ (done_of HT_.out (by kernel_rfl)) ?_;obtain ⟨w82,hq_⟩:∃ W_,W_=(w80.setCell ⟨go74,(Xa:Int).toNat * 2 + 1,none⟩ (I L Xc)):=⟨_,rfl⟩;have n0_:Aside0 (Kd.R k32 32 w82 w.heap.size (fun _=>True) (Y (some ⟨go74,0,none⟩) Oa.length Jb) y256):=⟨by rw [hq_];exact pR_ HQ81.out⟩;have n1_:Aside0 (w82.heap[Ob]?=some (.cells #[Y none 0 0] 26 (0,0))):=⟨by rw [hq_];refine pk_ ?_;refine blk_far ?_ Z29 _;refine pk_ ?_;exact Ka.out⟩;have n2_:Aside0 (w82.heap[Mb]?=some (.cells #[Y (some ⟨go74,0,none⟩) Oa.length Jb] 26 (0,0))):=⟨by rw [hq_];refine pk_ ?_;refine blk_far ?_ Z30 _;refine pk_ ?_;exact Ja.out⟩;have n3_:Aside0 (IsS47 w0 w82 g s0_0 Kh Mh):=⟨by rw [hq_];repeat (first|(with_reducible first|exact HI0.out|apply IsS47.alloc|apply IsS47.drewN|apply IsS47.drew|apply IsS47.set_1|apply IsS47.set_2|refine IsS47.far ?_ HN0_go74.out _|refine IsS47.far ?_ Od.out _|refine IsS47.far ?_ Jd.out _)|exact HI0.out)⟩;have n4_:Aside0 (KeepBut w w82 g none):=⟨by rw [hq_];repeat (first|(with_reducible first|exact HK.out|apply KeepBut.set_|apply keep_drewN|apply keep_drew|apply keep_alloc|refine keep_far ?_ GB74.out _|refine keep_far ?_ Oh.out _|refine keep_far ?_ Xh.out _)|exact HK.out)⟩;have n5_:Aside0 (Below w0.heap.size w0 w82):=⟨by rw [hq_];repeat (first|(with_reducible first|exact HB.out|apply below_alloc|apply pw_below_drewN|apply below_drew1|refine below_set ?_ (Nat.le_trans HL.out GB74.out)|refine below_set ?_ (IsS47.ge HI0.out)|refine below_set ?_ Uh.out|refine below_set ?_ Ji.out)|exact HB.out)⟩;(try clear Ma);(try clear Ka);(try clear Ja);(try clear HI0);(try clear HK);(try clear HB);(try rw [←hq_]);clear hq_;have Ma:=n0_;have Ka:=n1_;have Ja:=n2_;have HI0:=n3_;have HK:=n4_;have HB:=n5_;clear n0_ n1_ n2_ n3_ n4_ n5_;have Up:=cells1 Ja.out;(try have:=Xb.out);(try have:=Od.out);have Jq:=cells1 Ka.out
        try go_wp2
        refine bodyPost_ret (results_cell_row rfl _ _ Ob 26 #[Y (some ⟨go74,0,none⟩) Oa.length Jb] (0,0) _ rfl Z14 Try.underlying26 rfl (by kernel_rfl)) rfl ?_;exact ⟨_,er_,by (with_reducible repeat (first|apply Kd.R_alloc|apply Kd.R_drewN|apply Kd.R_drew));exact Kd.R_mono (fr_ (Kd.R_types Ma.out Ka.out (by decide)) 0 (Y (some ⟨go74,0,none⟩) Oa.length Jb)) (fun _ hk=>trivial),pS47_ HI0.out,pT47_ HB.out,pK_ HK.out⟩
       ·rw [if_neg c73] at H
        exact absurd H (by simp)
      ·rw [if_neg c72] at H
       exact absurd H (by simp)
     ·rw [if_neg c69] at H
      have c69b0:decide (0 < (Oa.length:Int))=false:=decide_eq_false c69;have c69b1:decide (0 < Oa.length)=false:=decide_eq_false (by omega);clear c69;simp only [Option.some.injEq,Prod.mk.injEq] at H;obtain ⟨rfl,rfl,rfl⟩:=H;(try have:=Md.out);(try have:=Oc.out);(try have:=Ub.out);(try have:=Jd.out);have Mq:=cells1 Ja.out;(try have:=Xb.out);(try have:=Od.out);have Uq:=cells1 Ka.out
      go_wp2
      refine bodyPost_ret (results_cell_row rfl _ _ Ob 26 #[Y Mc Oa.length Jb] (0,0) _ rfl Z14 Try.underlying26 rfl (by kernel_rfl)) rfl ?_;exact ⟨_,er_,by (with_reducible repeat (first|apply Kd.R_alloc|apply Kd.R_drewN|apply Kd.R_drew));exact Kd.R_mono (fr_ (Kd.R_types Ma.out Ka.out (by decide)) 0 (Y Mc Oa.length Jb)) (fun _ hk=>trivial),pS47_ HI0.out,pT47_ HB.out,pK_ HK.out⟩
    ·rw [if_neg c68] at H
     have c68b0:(Kb == 3)=false:=beq_eq_false_iff_ne.mpr c68;have c68b1:(Kb != 3)=true:=bne_iff_ne.mpr c68;simp only [Option.some.injEq,Prod.mk.injEq] at H;obtain ⟨rfl,rfl,rfl⟩:=H;(try have:=Md.out);(try have:=Oc.out);(try have:=Ub.out);(try have:=Jd.out);have Jr:=cells1 Ja.out;(try have:=Xb.out);(try have:=Od.out);have Mr:=cells1 Ka.out
     go_wp2
     refine bodyPost_ret (results_cell_row rfl _ _ Ob 26 #[Y Mc Oa.length Jb] (0,0) _ rfl Z14 Try.underlying26 rfl (by kernel_rfl)) rfl ?_;exact ⟨_,er_,by (with_reducible repeat (first|apply Kd.R_alloc|apply Kd.R_drewN|apply Kd.R_drew));exact Kd.R_mono (fr_ (Kd.R_types Ma.out Ka.out (by decide)) 0 (Y Mc Oa.length Jb)) (fun _ hk=>trivial),pS47_ HI0.out,pT47_ HB.out,pK_ HK.out⟩

/-! ### spec_DrawHeapPop: function 5 -/
def spec_DrawHeapPop.f (k : Nat) (l0 : List Int) : Option ((List (S32))) := (spec_l01Open.f l0).bind fun bt258 => ((spec_l01Cur_badHeap.f k bt258.1 bt258.2.1 bt258.2.2).bind fun bt262 => (some bt262.1))
set_option maxHeartbeats 8000000 in
set_option maxRecDepth 100000 in
theorem spec_DrawHeapPop.calls (k : Nat) (A0 : Option Addr) (c0 : Nat) (l0 : List Int) (r : List (S32)) (w : World) (hr0 : Kd.C (Kd.int .u8) w A0 l0.length l0) (hc0 : l0.length ≤ c0) (h : spec_DrawHeapPop.f k l0 = some r) :
  Calls Try.prog 5 #[Y A0 l0.length c0] w fun e w' => ∃ v0_ : Value, e = .returned (.agg #[v0_]) ∧ Kd.R k32 32 w' w.heap.size (fun _ => True) v0_ r ∧ Below w.heap.size w w' := by
 have hu26 := Try.underlying26
 have HR0 := D hr0
 have HC0 := D hc0
 clear hr0 hc0
 have HB := D (Below.refl w.heap.size w)
 have H : ((spec_l01Open.f l0).bind fun bt258 => ((spec_l01Cur_badHeap.f k bt258.1 bt258.2.1 bt258.2.2).bind fun bt262 => (some bt262.1))) = some r := h
 clear h
 obtain ⟨⟨t258, t259, t260⟩, A20, H⟩ := bs_.mp H
 (try dsimp only at H)
 have A2 := D A20
 clear A20
 obtain ⟨⟨t262, t265, t266⟩, A30, H⟩ := bs_.mp H
 (try dsimp only at H)
 have A3 := D A30
 clear A30
 obtain rfl := Option.some.inj H
 go_enter Try.func5, Try.ntmps5
 go_wp2_with (first|((with_reducible refine gate_dst (N:=2) rfl ?_);refine bx_ (N:=2) (cs:=#[Y none 0 0]) (t:=26) ?_;intro gb257 hg w4 hbox hb;have n_:=an_ (below_step (pB_ HB.out) hb)<|an_ (hbox)<|an_ (bg_ hg (pB_ HB.out):w.heap.size≤gb257)<|D (bg_ hg (pB_ HB.out):w.heap.size≤gb257);clear HB;obtain ⟨HB,BK257,GW257,GE257⟩:=n_;clear hb hbox hg)|((with_reducible refine gate_callee (f:=11) rfl ?_);refine goesL_ (some 5) rfl rfl Try.func11 (by kernel_rfl) rfl #[Y A0 l0.length c0] rfl Z9 ?_;(with_reducible refine (spec_l01Open.calls _ _ l0 t258 t259 t260 w _ ?side1 ?side2 ?side3 A2.out).mono ?_);(case side1=>exact pB_ HB.out);(case side2=>exact HR0.out);(case side3=>exact HC0.out);rintro e w5 ⟨g261,rfl,hi,hb,hb2⟩;refine ⟨_,rfl,?_⟩;have n_:=an_ (blk_below (pk_ BK257.out) hb2)<|an_ (hb)<|an_ (hi)<|an_ (IsS47.ne_blk hi (blk_below (pk_ BK257.out) hb2) (by decide))<|D (Ne.symm (IsS47.ne_blk hi (blk_below (pk_ BK257.out) hb2) (by decide)));clear BK257 HB;obtain ⟨BK257,HB,HI261,NB261_257,NB257_261⟩:=n_;(try clear hb);(try clear hb2);(try clear hi))|((with_reducible refine gate_callee (f:=12) rfl ?_);refine goesL_ (some 7) rfl rfl Try.func12 (by kernel_rfl) rfl #[.pointer (some ⟨g261,0,none⟩)] rfl Z9 ?_;(with_reducible refine (spec_l01Cur_badHeap.calls k g261 t258 t259 t260 t262 t265 t266 w _ ?side1 ?side2 A3.out).mono ?_);(case side1=>exact pS47_ HI261.out);(case side2=>exact pT47_ HB.out);rintro e w6 ⟨v263,rfl,ho0,hi,hb,hk⟩;refine ⟨_,rfl,?_⟩;have n_:=an_ (KeepBut.blk hk (pk_ BK257.out) NB257_261.out (by simp))<|an_ (Kd.R_lower ho0 (below_size (pT47_ HB.out)))<|an_ (hb)<|D (hi);clear BK257 HB HI261;obtain ⟨BK257,HO264,HB,HI261⟩:=n_;(try clear hb);(try clear hk);(try clear hi);(try clear ho0);obtain ⟨Ao7,co7,eo7⟩:=Kd.R_slice HO264.out;subst eo7;(try have:=NB257_261.out);(try have:=NB261_257.out);have hcz9_0:=cells1 BK257.out))
 refine bodyPost_ret (results_cell_row rfl _ _ gb257 26 #[Y Ao7 t262.length co7] (0,0) _ rfl (by exact pP_ BK257.out) Try.underlying26 rfl (by kernel_rfl)) rfl ?_
 exact ⟨_,er_,by (with_reducible repeat (first|apply Kd.R_alloc|apply Kd.R_drewN|apply Kd.R_drew));exact Kd.R_mono (fr_ (Kd.R_types HO264.out BK257.out (by decide)) 0 (Y Ao7 t262.length co7)) (fun _ hk=>trivial),pT47_ HB.out⟩

end Go.Proofs.Ytcindcakncngnaa.PFnHeapSorts
