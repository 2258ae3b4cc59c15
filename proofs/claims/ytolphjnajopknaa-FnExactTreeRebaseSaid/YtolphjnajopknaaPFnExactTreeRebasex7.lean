-- by a program of this session's, over the kit's words
import Derived.Test.YtolphjnajopknaaPZFnExactTreeRebase
import Derived.Test.YtolphjnajopknaaPFnExactTreeRebasex0
import Derived.Test.YtolphjnajopknaaPFnExactTreeRebasex6
namespace Go.Proofs.Ytolphjnajopknaa.PFnExactTreeRebase
open Go.RowKit Go.Proofs.YtolphjnajopknaaW.PrintWords Go.Proofs.YtolphjnajopknaaW.PrintLast Go.Proofs.YtolphjnajopknaaW.PrintMore Go.Proofs.YtolphjnajopknaaV Go.Proofs.Ytolphjnajopknaa.ZFnExactTreeRebase
attribute [local go_sem] max2_int min2_int max_two min_two max_three min_three max_four min_four   -- for this text's walks alone
set_option linter.unusedVariables false
set_option linter.unusedSimpArgs false

/-! ### impl_TagOk: function 57 -/
def impl_TagOk.f (a0_0 : Int) (a0_1 : Int) (a0_2 : Int) : Option (Bool) := (impl_Vec_isFrom.f a0_0 a0_1 a0_2 0 1000000000000).bind fun t281 => (some t281)
set_option maxHeartbeats 8000000 in
set_option maxRecDepth 100000 in
theorem impl_TagOk.calls (a0_0 : Int) (a0_1 : Int) (a0_2 : Int) (r : Bool) (w : World) (h : impl_TagOk.f a0_0 a0_1 a0_2 = some r) :
  Calls Try.prog 57 #[.agg #[.int .i64 a0_0, .int .i64 a0_1, .int .i64 a0_2]] w fun e w' => e = .returned (.bool r) ∧ Below w.heap.size w w' := by
 have hu31 := Try.underlying31
 have HB := Aside0.mk (Below.refl w.heap.size w)
 have H : ((impl_Vec_isFrom.f a0_0 a0_1 a0_2 0 1000000000000).bind fun t281 => (some t281)) = some r := h
 clear h
 obtain ⟨t281, A20, H⟩ := Option.bind_eq_some_iff.mp H
 (try dsimp only at H)
 have A2 := Aside0.mk A20
 clear A20
 obtain rfl := Option.some.inj H
 go_enter Try.func57, Try.ntmps57
 go_wp2_with (first|((with_reducible refine gate_dst (N:=1) rfl ?_);refine box_event ?hg (N:=1) ?hd (cs:=#[.int .i64 a0_0,.int .i64 a0_1,.int .i64 a0_2]) (t:=31) ?hr ?_;(case hd=>rfl);(case hg=>rfl);(case hr=>first|(go_simp;done)|(go_simp;rfl));intro gb280 hg w3 hbox hb;have n_:=an_ (below_step (pB_ HB.out) hb)<|an_ (hbox)<|an_ ((by rw [hg];exact (below_size (pB_ HB.out)):w.heap.size≤gb280))<|Aside0.mk ((by rw [hg];exact (below_size (pB_ HB.out)):w.heap.size≤gb280));clear HB;obtain ⟨HB,BK280,GW280,GE280⟩:=n_;clear hb hbox hg;obtain ⟨hcz4_0,hcz4_1,hcz4_2,hfz4_0,hfz4_1,hfz4_2⟩:=cells3 BK280.out)|((with_reducible refine gate_callee (f:=64) rfl ?_);refine goesL_ (some 4) rfl rfl Try.func64 (by kernel_rfl) rfl #[.agg #[.int .i64 a0_0,.int .i64 a0_1,.int .i64 a0_2],.int .i64 0,.int .i64 1000000000000] rfl Z8 ?_;(with_reducible refine (impl_Vec_isFrom.calls a0_0 a0_1 a0_2 0 1000000000000 t281 _ A2.out).mono ?_);rintro e w5 ⟨rfl,hb⟩;refine ⟨_,rfl,?_⟩;have n_:=an_ (blk_below (pk_ BK280.out) hb)<|Aside0.mk (below_step (pB_ HB.out) hb);clear BK280 HB;obtain ⟨BK280,HB⟩:=n_;(try clear hb);(try clear hb2);(try clear hk);(try clear hi)))
 go_ret
 exact ⟨by first | rfl | (simp [errW_none, errW_some] <;> rfl) | (simp [*, errW_none, errW_some] <;> rfl), pB_ HB.out⟩

/-! ### impl_isDelta: function 58 -/
def impl_isDelta.f (a0 : Int) : Option (Bool) := (impl_within.f a0 0 10000000).bind fun t282 => (some t282)
set_option maxHeartbeats 8000000 in
set_option maxRecDepth 100000 in
theorem impl_isDelta.calls (a0 : Int) (r : Bool) (w : World) (h : impl_isDelta.f a0 = some r) :
  Calls Try.prog 58 #[.int .i64 a0] w fun e w' => e = .returned (.bool r) ∧ Drawn0 w w' := by
 have H : ((impl_within.f a0 0 10000000).bind fun t282 => (some t282)) = some r := h
 clear h
 obtain ⟨t282, A20, H⟩ := Option.bind_eq_some_iff.mp H
 (try dsimp only at H)
 have A2 := Aside0.mk A20
 clear A20
 obtain rfl := Option.some.inj H
 go_enter Try.func58, Try.ntmps58
 go_wp2_with (first|((with_reducible refine gate_callee (f:=59) rfl ?_);refine goesL_ (some 4) rfl rfl Try.func59 (by kernel_rfl) rfl #[.int .i64 a0,.int .i64 0,.int .i64 10000000] rfl Z8 ?_;(with_reducible refine (impl_within.calls a0 0 10000000 t282 _ A2.out).mono ?_);rintro e w' ⟨rfl,⟨nd,rfl⟩⟩;refine ⟨_,rfl,?_⟩))
 go_ret
 exact ⟨by first | rfl | (simp; done) | (simp [*]; done), by repeat (first | exact Drawn0.refl _ | apply Drawn0.step)⟩

/-! ### impl_Narrow: function 52 -/
def impl_Narrow.f (a0_0 : Int) (a0_1 : Int) (a0_2 : Int) (a1 : Int) : Option (Bool) := (impl_TagOk.f a0_0 a0_1 a0_2).bind fun t284 => (if t284 = true then ((impl_isDelta.f a1).bind fun t285 => (if t285 = true then ((impl_VecTop.f a0_0 a0_1 a0_2).bind fun t286 => ((impl_Vec_isFrom.f a0_0 a0_1 a0_2 (wrap64 (t286 - a1)) 1000000000000).bind fun t287 => (some t287))) else (some false))) else (some false))
def impl_Narrow.T1 : Bool × List (List Nat × List Nat) := (true, [([], []), ([0], [0]), ([1, 1], [1]), ([2], [2]), ([3, 2, 2], [2, 3]), ([2, 4], [2, 4]), ([5, 4], [5]), ([6], [6]), ([6], [6]), ([8, 6, 6], [6, 8]), ([6], [6]), ([9, 10, 6], [6, 9, 10]), ([7, 11, 9, 6], [6, 7, 11]), ([6, 12], [6, 12]), ([13, 12, 0, 1, 2, 3, 4, 5, 6, 7, 8, 9, 10, 11, 12, 13], [13])])
def impl_Narrow.B1 : List Nat := [0, 1, 3, 7, 15, 31, 63, 127, 127, 383, 127, 1919, 4095, 8191, 16383]
theorem impl_Narrow.tab1 : rtab .any (opsOf Try.f52 1) = impl_Narrow.T1 := by kernel_rfl
theorem impl_Narrow.bits1 : waitsOk impl_Narrow.T1.2 impl_Narrow.B1 = true := by kernel_rfl
set_option maxHeartbeats 8000000 in
set_option maxRecDepth 100000 in
theorem impl_Narrow.calls (a0_0 : Int) (a0_1 : Int) (a0_2 : Int) (a1 : Int) (r : Bool) (w : World) (h : impl_Narrow.f a0_0 a0_1 a0_2 a1 = some r) :
  Calls Try.prog 52 #[.agg #[.int .i64 a0_0, .int .i64 a0_1, .int .i64 a0_2], .int .i64 a1] w fun e w' => e = .returned (.bool r) ∧ Below w.heap.size w w' := by
 have hu31 := Try.underlying31
 have HB := Aside0.mk (Below.refl w.heap.size w)
 have H:((impl_TagOk.f a0_0 a0_1 a0_2).bind fun t284=>(if t284=true then ((impl_isDelta.f a1).bind fun t285=>(if t285=true then ((impl_VecTop.f a0_0 a0_1 a0_2).bind fun t286=>((impl_Vec_isFrom.f a0_0 a0_1 a0_2 (wrap64 (t286 - a1)) 1000000000000).bind fun t287=>(some t287))) else (some false))) else (some false)))=some r:=h
 clear h
 obtain ⟨t284, A30, H⟩ := Option.bind_eq_some_iff.mp H
 (try dsimp only at H)
 have A3 := Aside0.mk A30
 clear A30
 by_cases c4 : t284 = true
 ·subst c4
  rw [if_pos rfl] at H; obtain ⟨t285, A50, H⟩ := Option.bind_eq_some_iff.mp H; (try dsimp only at H); have A5 := Aside0.mk A50; clear A50
  by_cases c6 : t285 = true
  ·subst c6
   rw [if_pos rfl] at H;obtain ⟨t286,A70,H⟩:=Option.bind_eq_some_iff.mp H;(try dsimp only at H);have A7:=Aside0.mk A70;clear A70;obtain ⟨t287,A80,H⟩:=Option.bind_eq_some_iff.mp H;(try dsimp only at H);have A8:=Aside0.mk A80;clear A80;obtain rfl:=Option.some.inj H;go_enter Try.func52,Try.ntmps52
   try go_wp2_with (first|((with_reducible refine gate_dst (N:=2) rfl ?_);refine box_event ?hg (N:=2) ?hd (cs:=#[.int .i64 a0_0,.int .i64 a0_1,.int .i64 a0_2]) (t:=31) ?hr ?_;(case hd=>rfl);(case hg=>rfl);(case hr=>first|(go_simp;done)|(go_simp;rfl));intro gb283 hg w9 hbox hb;have n_:=an_ (below_step (pB_ HB.out) hb)<|an_ (hbox)<|an_ ((by rw [hg];exact (below_size (pB_ HB.out)):w.heap.size≤gb283))<|Aside0.mk ((by rw [hg];exact (below_size (pB_ HB.out)):w.heap.size≤gb283));clear HB;obtain ⟨HB,BK283,GW283,GE283⟩:=n_;clear hb hbox hg))
   have n_ := an_ (blk_drew BK283.out) <| Aside0.mk (below_drew1 HB.out)
   clear BK283 HB;obtain ⟨BK283,HB⟩:=n_;refine start_ (n:=15) (S:=fun w'=>w'.cell? ⟨gb283,0,none⟩=some (.int .i64 a0_0)∧w'.cell? ⟨gb283,1,none⟩=some (.int .i64 a0_1)∧w'.cell? ⟨gb283,2,none⟩=some (.int .i64 a0_2)) (ds:=[]) (bz 15 0) (by kernel_rfl) rfl (by kernel_rfl) ⟨(blk_cell BK283.out 0).trans rfl,(blk_cell BK283.out 1).trans rfl,(blk_cell BK283.out 2).trans rfl⟩ (fun hHeld=>?_);refine with_tabW impl_Narrow.tab1 impl_Narrow.bits1 (fun HT_ HW_=>?_);generalize w9.drew=w10 at BK283 HB hHeld ⊢;refine ta_ 0 5 15 1 HT_ HW_ rfl rfl hHeld Z25 ?_;refine oa_ 1 6 15 3 HT_ (fun K hK=>?_);refine goes_ Try.func57 (by kernel_rfl) rfl #[.agg #[.int .i64 a0_0,.int .i64 a0_1,.int .i64 a0_2]] (by rfl) rfl rfl Z8 ?_;with_reducible refine (impl_TagOk.calls a0_0 a0_1 a0_2 true _ A3.out).mono ?_
   rintro e w11 ⟨rfl, hb⟩; refine ⟨_, rfl, ?_⟩
   have n_ := an_ (blk_below (pk_ BK283.out) hb) <| Aside0.mk (below_step (pB_ HB.out) hb)
   clear BK283 HB;obtain ⟨BK283,HB⟩:=n_;(try clear hb);(try clear hb2);(try clear hk);(try clear hi);refine hK.out _ _ ⟨(blk_cell BK283.out 0).trans rfl,(blk_cell BK283.out 1).trans rfl,(blk_cell BK283.out 2).trans rfl⟩ (fun hHeld=>?_);clear hK K;refine nx_ (N:=some 6) ?_;refine pa_ 2 7 15 7 HT_ ?_;refine pa_ 3 8 15 15 HT_ ?_;refine oa_ 4 9 15 31 HT_ (fun K hK=>?_);refine goes_ Try.func58 (by kernel_rfl) rfl #[.int .i64 a1] (by rfl) rfl rfl Z8 ?_;with_reducible refine (impl_isDelta.calls a1 true _ A5.out).mono ?_
   rintro e w' ⟨rfl,⟨nd,rfl⟩⟩;refine ⟨_,rfl,?_⟩;refine hK.out _ _ ⟨(blk_cell BK283.out 0).trans rfl,(blk_cell BK283.out 1).trans rfl,(blk_cell BK283.out 2).trans rfl⟩ (fun hHeld=>?_);clear hK K;refine nx_ (N:=some 9) ?_;refine pa_ 5 10 15 63 HT_ ?_;refine pa_ 6 11 15 127 HT_ ?_;refine pa_ 10 15 15 1151 HT_ ?_;refine ta_ 7 12 15 1279 HT_ HW_ rfl rfl hHeld Z25 ?_;refine ta_ 8 13 15 1535 HT_ HW_ rfl rfl hHeld Z25 ?_;refine oa_ 9 14 15 2047 HT_ (fun K hK=>?_);refine goes_ Try.func53 (by kernel_rfl) rfl #[.agg #[.int .i64 a0_0,.int .i64 a0_1,.int .i64 a0_2]] (by rfl) rfl rfl Z8 ?_;with_reducible refine (impl_VecTop.calls a0_0 a0_1 a0_2 t286 _ A7.out).mono ?_
   rintro e w12 ⟨rfl, hb⟩; refine ⟨_, rfl, ?_⟩
   have n_ := an_ (blk_below (pk_ BK283.out) hb) <| Aside0.mk (below_step (pB_ HB.out) hb)
   clear BK283 HB;obtain ⟨BK283,HB⟩:=n_;(try clear hb);(try clear hb2);(try clear hk);(try clear hi);refine hK.out _ _ ⟨(blk_cell BK283.out 0).trans rfl,(blk_cell BK283.out 1).trans rfl,(blk_cell BK283.out 2).trans rfl⟩ (fun hHeld=>?_);clear hK K;refine nx_ (N:=some 14) ?_;refine pa_ 11 16 15 4095 HT_ ?_;refine oa_ 12 17 15 8191 HT_ (fun K hK=>?_);refine goes_ Try.func64 (by kernel_rfl) rfl #[.agg #[.int .i64 a0_0,.int .i64 a0_1,.int .i64 a0_2],.int .i64 (wrap64 (t286 - a1)),.int .i64 1000000000000] (by rfl) rfl rfl Z8 ?_;with_reducible refine (impl_Vec_isFrom.calls a0_0 a0_1 a0_2 (wrap64 (t286 - a1)) 1000000000000 t287 _ A8.out).mono ?_
   rintro e w13 ⟨rfl, hb⟩; refine ⟨_, rfl, ?_⟩
   have n_ := an_ (blk_below (pk_ BK283.out) hb) <| Aside0.mk (below_step (pB_ HB.out) hb)
   clear BK283 HB;obtain ⟨BK283,HB⟩:=n_;(try clear hb);(try clear hb2);(try clear hk);(try clear hi);refine hK.out _ _ ⟨(blk_cell BK283.out 0).trans rfl,(blk_cell BK283.out 1).trans rfl,(blk_cell BK283.out 2).trans rfl⟩ (fun hHeld=>?_);clear hK K;refine nx_ (N:=some 17) ?_;refine pa_ 13 18 15 16383 HT_ ?_;refine pa_ 14 4 15 32767 HT_ ?_;refine done_ (done_of HT_.out (by kernel_rfl)) ?_
   try go_wp2
   go_ret; exact ⟨by first | rfl | (simp [errW_none, errW_some] <;> rfl) | (simp [*, errW_none, errW_some] <;> rfl), pB_ HB.out⟩
  ·replace c6 := Bool.eq_false_iff.mpr c6
   subst c6; rw [if_neg (show ¬ (false = true) by decide)] at H; obtain rfl := Option.some.inj H; go_enter Try.func52, Try.ntmps52
   try go_wp2_with (first|((with_reducible refine gate_dst (N:=2) rfl ?_);refine box_event ?hg (N:=2) ?hd (cs:=#[.int .i64 a0_0,.int .i64 a0_1,.int .i64 a0_2]) (t:=31) ?hr ?_;(case hd=>rfl);(case hg=>rfl);(case hr=>first|(go_simp;done)|(go_simp;rfl));intro gb283 hg w14 hbox hb;have n_:=an_ (below_step (pB_ HB.out) hb)<|an_ (hbox)<|an_ ((by rw [hg];exact (below_size (pB_ HB.out)):w.heap.size≤gb283))<|Aside0.mk ((by rw [hg];exact (below_size (pB_ HB.out)):w.heap.size≤gb283));clear HB;obtain ⟨HB,BK283,GW283,GE283⟩:=n_;clear hb hbox hg))
   have n_ := an_ (blk_drew BK283.out) <| Aside0.mk (below_drew1 HB.out)
   clear BK283 HB;obtain ⟨BK283,HB⟩:=n_;refine start_ (n:=15) (S:=fun w'=>w'.cell? ⟨gb283,0,none⟩=some (.int .i64 a0_0)∧w'.cell? ⟨gb283,1,none⟩=some (.int .i64 a0_1)∧w'.cell? ⟨gb283,2,none⟩=some (.int .i64 a0_2)) (ds:=[]) (bz 15 0) (by kernel_rfl) rfl (by kernel_rfl) ⟨(blk_cell BK283.out 0).trans rfl,(blk_cell BK283.out 1).trans rfl,(blk_cell BK283.out 2).trans rfl⟩ (fun hHeld=>?_);refine with_tabW impl_Narrow.tab1 impl_Narrow.bits1 (fun HT_ HW_=>?_);generalize w14.drew=w15 at BK283 HB hHeld ⊢;refine ta_ 0 5 15 1 HT_ HW_ rfl rfl hHeld Z25 ?_;refine oa_ 1 6 15 3 HT_ (fun K hK=>?_);refine goes_ Try.func57 (by kernel_rfl) rfl #[.agg #[.int .i64 a0_0,.int .i64 a0_1,.int .i64 a0_2]] (by rfl) rfl rfl Z8 ?_;with_reducible refine (impl_TagOk.calls a0_0 a0_1 a0_2 true _ A3.out).mono ?_
   rintro e w16 ⟨rfl, hb⟩; refine ⟨_, rfl, ?_⟩
   have n_ := an_ (blk_below (pk_ BK283.out) hb) <| Aside0.mk (below_step (pB_ HB.out) hb)
   clear BK283 HB;obtain ⟨BK283,HB⟩:=n_;(try clear hb);(try clear hb2);(try clear hk);(try clear hi);refine hK.out _ _ ⟨(blk_cell BK283.out 0).trans rfl,(blk_cell BK283.out 1).trans rfl,(blk_cell BK283.out 2).trans rfl⟩ (fun hHeld=>?_);clear hK K;refine nx_ (N:=some 6) ?_;refine pa_ 2 7 15 7 HT_ ?_;refine pa_ 3 8 15 15 HT_ ?_;refine oa_ 4 9 15 31 HT_ (fun K hK=>?_);refine goes_ Try.func58 (by kernel_rfl) rfl #[.int .i64 a1] (by rfl) rfl rfl Z8 ?_;with_reducible refine (impl_isDelta.calls a1 false _ A5.out).mono ?_
   rintro e w' ⟨rfl,⟨nd,rfl⟩⟩;refine ⟨_,rfl,?_⟩;refine hK.out _ _ ⟨(blk_cell BK283.out 0).trans rfl,(blk_cell BK283.out 1).trans rfl,(blk_cell BK283.out 2).trans rfl⟩ (fun hHeld=>?_);clear hK K;refine nx_ (N:=some 9) ?_;refine pa_ 5 10 15 63 HT_ ?_;refine pa_ 6 11 15 127 HT_ ?_;refine ox_ (i:=7) (N:=some 12) (bz 15 255) (any_of HT_.out (by kernel_rfl)) ?_;refine ox_ (i:=8) (N:=some 13) (bz 15 511) (any_of HT_.out (by kernel_rfl)) ?_;refine ox_ (i:=9) (N:=some 14) (bz 15 1023) (any_of HT_.out (by kernel_rfl)) ?_;refine ox_ (i:=10) (N:=some 15) (bz 15 2047) (any_of HT_.out (by kernel_rfl)) ?_;refine ox_ (i:=11) (N:=some 16) (bz 15 4095) (any_of HT_.out (by kernel_rfl)) ?_;refine ox_ (i:=12) (N:=some 17) (bz 15 8191) (any_of HT_.out (by kernel_rfl)) ?_;refine pa_ 13 18 15 16383 HT_ ?_;refine pa_ 14 4 15 32767 HT_ ?_;refine done_ (done_of HT_.out (by kernel_rfl)) ?_
   try go_wp2
   go_ret; exact ⟨by first | rfl | (simp [errW_none, errW_some] <;> rfl) | (simp [*, errW_none, errW_some] <;> rfl), pB_ HB.out⟩
 ·replace c4 := Bool.eq_false_iff.mpr c4
  subst c4; rw [if_neg (show ¬ (false = true) by decide)] at H; obtain rfl := Option.some.inj H; go_enter Try.func52, Try.ntmps52
  try go_wp2_with (first|((with_reducible refine gate_dst (N:=2) rfl ?_);refine box_event ?hg (N:=2) ?hd (cs:=#[.int .i64 a0_0,.int .i64 a0_1,.int .i64 a0_2]) (t:=31) ?hr ?_;(case hd=>rfl);(case hg=>rfl);(case hr=>first|(go_simp;done)|(go_simp;rfl));intro gb283 hg w17 hbox hb;have n_:=an_ (below_step (pB_ HB.out) hb)<|an_ (hbox)<|an_ ((by rw [hg];exact (below_size (pB_ HB.out)):w.heap.size≤gb283))<|Aside0.mk ((by rw [hg];exact (below_size (pB_ HB.out)):w.heap.size≤gb283));clear HB;obtain ⟨HB,BK283,GW283,GE283⟩:=n_;clear hb hbox hg))
  have n_ := an_ (blk_drew BK283.out) <| Aside0.mk (below_drew1 HB.out)
  clear BK283 HB;obtain ⟨BK283,HB⟩:=n_;refine start_ (n:=15) (S:=fun w'=>w'.cell? ⟨gb283,0,none⟩=some (.int .i64 a0_0)∧w'.cell? ⟨gb283,1,none⟩=some (.int .i64 a0_1)∧w'.cell? ⟨gb283,2,none⟩=some (.int .i64 a0_2)) (ds:=[]) (bz 15 0) (by kernel_rfl) rfl (by kernel_rfl) ⟨(blk_cell BK283.out 0).trans rfl,(blk_cell BK283.out 1).trans rfl,(blk_cell BK283.out 2).trans rfl⟩ (fun hHeld=>?_);refine with_tabW impl_Narrow.tab1 impl_Narrow.bits1 (fun HT_ HW_=>?_);generalize w17.drew=w18 at BK283 HB hHeld ⊢;refine ta_ 0 5 15 1 HT_ HW_ rfl rfl hHeld Z25 ?_;refine oa_ 1 6 15 3 HT_ (fun K hK=>?_);refine goes_ Try.func57 (by kernel_rfl) rfl #[.agg #[.int .i64 a0_0,.int .i64 a0_1,.int .i64 a0_2]] (by rfl) rfl rfl Z8 ?_;with_reducible refine (impl_TagOk.calls a0_0 a0_1 a0_2 false _ A3.out).mono ?_
  rintro e w19 ⟨rfl, hb⟩; refine ⟨_, rfl, ?_⟩
  have n_ := an_ (blk_below (pk_ BK283.out) hb) <| Aside0.mk (below_step (pB_ HB.out) hb)
  clear BK283 HB;obtain ⟨BK283,HB⟩:=n_;(try clear hb);(try clear hb2);(try clear hk);(try clear hi);refine hK.out _ _ ⟨(blk_cell BK283.out 0).trans rfl,(blk_cell BK283.out 1).trans rfl,(blk_cell BK283.out 2).trans rfl⟩ (fun hHeld=>?_);clear hK K;refine nx_ (N:=some 6) ?_;refine pa_ 2 7 15 7 HT_ ?_;refine ox_ (i:=3) (N:=some 8) (bz 15 15) (any_of HT_.out (by kernel_rfl)) ?_;refine ox_ (i:=4) (N:=some 9) (bz 15 31) (any_of HT_.out (by kernel_rfl)) ?_;refine pa_ 5 10 15 63 HT_ ?_;refine pa_ 6 11 15 127 HT_ ?_;refine ox_ (i:=7) (N:=some 12) (bz 15 255) (any_of HT_.out (by kernel_rfl)) ?_;refine ox_ (i:=8) (N:=some 13) (bz 15 511) (any_of HT_.out (by kernel_rfl)) ?_;refine ox_ (i:=9) (N:=some 14) (bz 15 1023) (any_of HT_.out (by kernel_rfl)) ?_;refine ox_ (i:=10) (N:=some 15) (bz 15 2047) (any_of HT_.out (by kernel_rfl)) ?_;refine ox_ (i:=11) (N:=some 16) (bz 15 4095) (any_of HT_.out (by kernel_rfl)) ?_;refine ox_ (i:=12) (N:=some 17) (bz 15 8191) (any_of HT_.out (by kernel_rfl)) ?_;refine pa_ 13 18 15 16383 HT_ ?_;refine pa_ 14 4 15 32767 HT_ ?_;refine done_ (done_of HT_.out (by kernel_rfl)) ?_
  try go_wp2
  go_ret; exact ⟨by first | rfl | (simp [errW_none, errW_some] <;> rfl) | (simp [*, errW_none, errW_some] <;> rfl), pB_ HB.out⟩

/-! ### impl_isFlow: function 65 -/
def impl_isFlow.f (a0 : Int) : Option (Bool) := (impl_within.f a0 0 9999).bind fun t288 => (some t288)
set_option maxHeartbeats 8000000 in
set_option maxRecDepth 100000 in
theorem impl_isFlow.calls (a0 : Int) (r : Bool) (w : World) (h : impl_isFlow.f a0 = some r) :
  Calls Try.prog 65 #[.int .i64 a0] w fun e w' => e = .returned (.bool r) ∧ Drawn0 w w' := by
 have H : ((impl_within.f a0 0 9999).bind fun t288 => (some t288)) = some r := h
 clear h
 obtain ⟨t288, A20, H⟩ := Option.bind_eq_some_iff.mp H
 (try dsimp only at H)
 have A2 := Aside0.mk A20
 clear A20
 obtain rfl := Option.some.inj H
 go_enter Try.func65, Try.ntmps65
 go_wp2_with (first|((with_reducible refine gate_callee (f:=59) rfl ?_);refine goesL_ (some 4) rfl rfl Try.func59 (by kernel_rfl) rfl #[.int .i64 a0,.int .i64 0,.int .i64 9999] rfl Z8 ?_;(with_reducible refine (impl_within.calls a0 0 9999 t288 _ A2.out).mono ?_);rintro e w' ⟨rfl,⟨nd,rfl⟩⟩;refine ⟨_,rfl,?_⟩))
 go_ret
 exact ⟨by first | rfl | (simp; done) | (simp [*]; done), by repeat (first | exact Drawn0.refl _ | apply Drawn0.step)⟩

/-! ### impl_isWeight: function 66 -/
def impl_isWeight.f (a0 : Int) : Option (Bool) := (impl_within.f a0 1 10).bind fun t289 => (some t289)
set_option maxHeartbeats 8000000 in
set_option maxRecDepth 100000 in
theorem impl_isWeight.calls (a0 : Int) (r : Bool) (w : World) (h : impl_isWeight.f a0 = some r) :
  Calls Try.prog 66 #[.int .i64 a0] w fun e w' => e = .returned (.bool r) ∧ Drawn0 w w' := by
 have H : ((impl_within.f a0 1 10).bind fun t289 => (some t289)) = some r := h
 clear h
 obtain ⟨t289, A20, H⟩ := Option.bind_eq_some_iff.mp H
 (try dsimp only at H)
 have A2 := Aside0.mk A20
 clear A20
 obtain rfl := Option.some.inj H
 go_enter Try.func66, Try.ntmps66
 go_wp2_with (first|((with_reducible refine gate_callee (f:=59) rfl ?_);refine goesL_ (some 4) rfl rfl Try.func59 (by kernel_rfl) rfl #[.int .i64 a0,.int .i64 1,.int .i64 10] rfl Z8 ?_;(with_reducible refine (impl_within.calls a0 1 10 t289 _ A2.out).mono ?_);rintro e w' ⟨rfl,⟨nd,rfl⟩⟩;refine ⟨_,rfl,?_⟩))
 go_ret
 exact ⟨by first | rfl | (simp; done) | (simp [*]; done), by repeat (first | exact Drawn0.refl _ | apply Drawn0.step)⟩

/-! ### impl_Stride: function 67 -/
def impl_Stride.f (a0 : Int) : Option (Int) := (impl_isWeight.f a0).bind fun t290 => (if t290 = true then (if a0 = 0 then (none) else (some (wrap64 (Int.tdiv (2520 : Int) a0)))) else (some 0))
set_option maxHeartbeats 8000000 in
set_option maxRecDepth 100000 in
theorem impl_Stride.calls (a0 : Int) (r : Int) (w : World) (h : impl_Stride.f a0 = some r) :
  Calls Try.prog 67 #[.int .i64 a0] w fun e w' => e = .returned (.int .i64 r) ∧ Drawn0 w w' := by
 have H : ((impl_isWeight.f a0).bind fun t290 => (if t290 = true then (if a0 = 0 then (none) else (some (wrap64 (Int.tdiv (2520 : Int) a0)))) else (some 0))) = some r := h
 clear h
 obtain ⟨t290, A20, H⟩ := Option.bind_eq_some_iff.mp H
 (try dsimp only at H)
 have A2 := Aside0.mk A20
 clear A20
 have HU3 := Aside0.mk H
 clear H
 go_enter Try.func67, Try.ntmps67
 go_upto_if 5 with (first|((with_reducible refine gate_callee (f:=66) rfl ?_);refine goesL_ (some 4) rfl rfl Try.func66 (by kernel_rfl) rfl #[.int .i64 a0] rfl Z8 ?_;(with_reducible refine (impl_isWeight.calls a0 t290 _ A2.out).mono ?_);rintro e w' ⟨rfl,⟨nd,rfl⟩⟩;refine ⟨_,rfl,?_⟩))
 have H := HU3.out
 clear HU3
 by_cases c4 : t290 = true
 ·subst c4
  rw [if_pos rfl] at H
  by_cases c5 : a0 = 0
  ·rw [if_pos c5] at H
   exact absurd H (by simp)
  ·rw [if_neg c5] at H
   have c5b0:(a0 == 0)=false:=beq_eq_false_iff_ne.mpr c5;have c5b1:(a0 != 0)=true:=bne_iff_ne.mpr c5;(first|rw [c5b0]|(simp only [i64_w,i32_w];rw [c5b0])|(have cz_:=c5b0;simp only [bne,gt_iff_lt,Int.natCast_pos] at cz_;first|rw [cz_]|(simp only [i64_w,i32_w];rw [cz_]))|skip);obtain rfl:=Option.some.inj H
   go_wp2
   go_ret; exact ⟨by first | rfl | (simp; done) | (simp [*]; done), by repeat (first | exact Drawn0.refl _ | apply Drawn0.step)⟩
 ·replace c4 := Bool.eq_false_iff.mpr c4
  subst c4; rw [if_neg (show ¬ (false = true) by decide)] at H; obtain rfl := Option.some.inj H
  go_wp2
  go_ret; exact ⟨by first | rfl | (simp; done) | (simp [*]; done), by repeat (first | exact Drawn0.refl _ | apply Drawn0.step)⟩

/-! ### impl_Fair_kidOk: function 54 -/
def impl_Fair_kidOk.f (a0_0 : Int) (a0_1 : Int) (a0_2 : Int) (a0_3 : Int) (l0_4 : List (S61)) (a1_0 : Int) (a1_1 : Int) (a1_2 : Bool) (a1_3 : Int) (a1_4 : Int) (a1_5 : Int) : Option (Bool) := (impl_VecTop.f a0_1 a0_2 a0_3).bind fun t293 => ((impl_VecTop.f a1_3 a1_4 a1_5).bind fun t294 => ((impl_isFlow.f a1_0).bind fun t295 => (if t295 = true then ((impl_isWeight.f a1_1).bind fun t296 => (if t296 = true then ((impl_Narrow.f a1_3 a1_4 a1_5 a0_0).bind fun t297 => (if t297 = true then ((impl_Stride.f a1_1).bind fun t298 => (if t294 ≤ (wrap64 (t293 + (wrap64 (t298 * 2000)))) then (if a1_2 = true then (some (decide (t294 ≥ t293))) else (some true)) else (some false))) else (some false))) else (some false))) else (some false))))
def impl_Fair_kidOk.T1 : Bool × List (List Nat × List Nat) := (true, [([], []), ([0], [0]), ([1], [1]), ([], []), ([3], [3]), ([4, 2], [4]), ([2, 5, 0, 1, 2], [2]), ([5, 6, 0, 1, 2, 3, 4, 5, 6], [5])])
def impl_Fair_kidOk.B1 : List Nat := [0, 1, 3, 0, 8, 31, 63, 127]
theorem impl_Fair_kidOk.tab1 : rtab .any (opsOf Try.f54 1) = impl_Fair_kidOk.T1 := by kernel_rfl
theorem impl_Fair_kidOk.bits1 : waitsOk impl_Fair_kidOk.T1.2 impl_Fair_kidOk.B1 = true := by kernel_rfl
set_option maxHeartbeats 8000000 in
set_option maxRecDepth 100000 in
theorem impl_Fair_kidOk.calls (a0_0 : Int) (a0_1 : Int) (a0_2 : Int) (a0_3 : Int) (A0_4 : Option Addr) (c0_4 : Nat) (l0_4 : List (S61)) (a1_0 : Int) (a1_1 : Int) (a1_2 : Bool) (a1_3 : Int) (a1_4 : Int) (a1_5 : Int) (r : Bool) (w : World) (hr0_4 : Kd.C k61 w A0_4 l0_4.length l0_4) (hc0_4 : l0_4.length ≤ c0_4) (h : impl_Fair_kidOk.f a0_0 a0_1 a0_2 a0_3 l0_4 a1_0 a1_1 a1_2 a1_3 a1_4 a1_5 = some r) :
  Calls Try.prog 54 #[.agg #[.int .i64 a0_0,.int .i64 a0_1,.int .i64 a0_2,.int .i64 a0_3,.slice A0_4 l0_4.length c0_4],.agg #[.int .i64 a1_0,.int .i64 a1_1,.bool a1_2,.int .i64 a1_3,.int .i64 a1_4,.int .i64 a1_5]] w fun e w'=>e=.returned (.bool r)∧Below w.heap.size w w':=by
 have hu34 := Try.underlying34
 have hu61 := Try.underlying61
 have hu31 := Try.underlying31
 have HR0_4 := Aside0.mk hr0_4
 have HC0_4 := Aside0.mk hc0_4
 clear hr0_4 hc0_4
 have HB := Aside0.mk (Below.refl w.heap.size w)
 have H:((impl_VecTop.f a0_1 a0_2 a0_3).bind fun Ua=>((impl_VecTop.f a1_3 a1_4 a1_5).bind fun Xa=>((impl_isFlow.f a1_0).bind fun Ub=>(if Ub=true then ((impl_isWeight.f a1_1).bind fun Xb=>(if Xb=true then ((impl_Narrow.f a1_3 a1_4 a1_5 a0_0).bind fun Ob=>(if Ob=true then ((impl_Stride.f a1_1).bind fun Jb=>(if Xa≤(wrap64 (Ua + (wrap64 (Jb * 2000)))) then (if a1_2=true then (some (decide (Xa ≥ Ua))) else (some true)) else (some false))) else (some false))) else (some false))) else (some false)))))=some r:=h
 clear h
 obtain ⟨Ua, A30, H⟩ := Option.bind_eq_some_iff.mp H
 (try dsimp only at H)
 have A3 := Aside0.mk A30
 clear A30
 obtain ⟨Xa, A40, H⟩ := Option.bind_eq_some_iff.mp H
 (try dsimp only at H)
 have A4 := Aside0.mk A40
 clear A40
 obtain ⟨Ub, A50, H⟩ := Option.bind_eq_some_iff.mp H
 (try dsimp only at H)
 have A5 := Aside0.mk A50
 clear A50
 by_cases c6 : Ub = true
 ·subst c6
  rw [if_pos rfl] at H; obtain ⟨Xb, A70, H⟩ := Option.bind_eq_some_iff.mp H; (try dsimp only at H); have A7 := Aside0.mk A70; clear A70
  by_cases c8 : Xb = true
  ·subst c8
   rw [if_pos rfl] at H;obtain ⟨Ob,A90,H⟩:=Option.bind_eq_some_iff.mp H;(try dsimp only at H);have A9:=Aside0.mk A90;clear A90;have HU10:=Aside0.mk H;clear H;go_enter Try.func54,Try.ntmps54
   try go_wp2_with (first|((with_reducible refine gate_dst (N:=2) rfl ?_);refine box_event ?hg (N:=2) ?hd (cs:=#[.int .i64 a0_0,.int .i64 a0_1,.int .i64 a0_2,.int .i64 a0_3,.slice A0_4 l0_4.length c0_4]) (t:=34) ?hr ?_;(case hd=>rfl);(case hg=>rfl);(case hr=>first|(go_simp;done)|(go_simp;rfl));intro Ma hg w11 hbox hb;have n_:=an_ (below_step (pB_ HB.out) hb)<|an_ (hbox)<|an_ ((by rw [hg];exact (below_size (pB_ HB.out)):w.heap.size≤Ma))<|Aside0.mk ((by rw [hg];exact (below_size (pB_ HB.out)):w.heap.size≤Ma));clear HB;obtain ⟨HB,Ja,Jc,Kc⟩:=n_;clear hb hbox hg)|((with_reducible refine gate_dst (N:=3) rfl ?_);refine box_event ?hg (N:=3) ?hd (cs:=#[.int .i64 a1_0,.int .i64 a1_1,.bool a1_2,.int .i64 a1_3,.int .i64 a1_4,.int .i64 a1_5]) (t:=61) ?hr ?_;(case hd=>rfl);(case hg=>rfl);(case hr=>first|(go_simp;done)|(go_simp;rfl));intro Oa hg w12 hbox hb;have n_:=an_ (blk_below (pk_ Ja.out) hb)<|an_ (below_step (pB_ HB.out) hb)<|an_ (hbox)<|an_ ((by rw [hg];exact (below_size (pB_ HB.out)):w.heap.size≤Oa))<|an_ ((by rw [hg];exact (below_size (pB_ HB.out)):w.heap.size≤Oa))<|an_ ((by rw [hg];exact Nat.ne_of_lt (blk_lt (pk_ Ja.out)):Ma≠Oa))<|Aside0.mk ((by rw [hg];exact Nat.ne_of_gt (blk_lt (pk_ Ja.out)):Oa≠Ma));clear Ja HB;obtain ⟨Ja,HB,Ka,Mc,Oc,Kb,Mb⟩:=n_;clear hb hbox hg))
   have n_ := an_ (blk_drew Ja.out) <| an_ (blk_drew Ka.out) <| Aside0.mk (below_drew1 HB.out)
   clear Ja Ka HB;obtain ⟨Ja,Ka,HB⟩:=n_;refine start_ (n:=8) (S:=fun w'=>w'.cell? ⟨Ma,0,none⟩=some (.int .i64 a0_0)∧w'.cell? ⟨Ma,1,none⟩=some (.int .i64 a0_1)∧w'.cell? ⟨Ma,2,none⟩=some (.int .i64 a0_2)∧w'.cell? ⟨Ma,3,none⟩=some (.int .i64 a0_3)∧w'.cell? ⟨Ma,4,none⟩=some (.slice A0_4 l0_4.length c0_4)∧w'.cell? ⟨Oa,0,none⟩=some (.int .i64 a1_0)∧w'.cell? ⟨Oa,1,none⟩=some (.int .i64 a1_1)∧w'.cell? ⟨Oa,2,none⟩=some (.bool a1_2)∧w'.cell? ⟨Oa,3,none⟩=some (.int .i64 a1_3)∧w'.cell? ⟨Oa,4,none⟩=some (.int .i64 a1_4)∧w'.cell? ⟨Oa,5,none⟩=some (.int .i64 a1_5)) (ds:=[]) (bz 8 0) (by kernel_rfl) rfl (by kernel_rfl) ⟨(blk_cell Ja.out 0).trans rfl,(blk_cell Ja.out 1).trans rfl,(blk_cell Ja.out 2).trans rfl,(blk_cell Ja.out 3).trans rfl,(blk_cell Ja.out 4).trans rfl,(blk_cell Ka.out 0).trans rfl,(blk_cell Ka.out 1).trans rfl,(blk_cell Ka.out 2).trans rfl,(blk_cell Ka.out 3).trans rfl,(blk_cell Ka.out 4).trans rfl,(blk_cell Ka.out 5).trans rfl⟩ (fun hHeld=>?_);refine with_tabW impl_Fair_kidOk.tab1 impl_Fair_kidOk.bits1 (fun HT_ HW_=>?_);generalize w12.drew=w13 at Ja Ka HB hHeld ⊢;refine pa_ 0 7 8 1 HT_ ?_;refine pa_ 3 10 8 9 HT_ ?_;refine ta_ 1 8 8 11 HT_ HW_ rfl rfl hHeld Z22 ?_;refine ta_ 4 11 8 27 HT_ HW_ rfl rfl hHeld Z22 ?_;refine oa_ 2 9 8 31 HT_ (fun K hK=>?_);refine goes_ Try.func53 (by kernel_rfl) rfl #[.agg #[.int .i64 a0_1,.int .i64 a0_2,.int .i64 a0_3]] (by rfl) rfl rfl Z8 ?_;with_reducible refine (impl_VecTop.calls a0_1 a0_2 a0_3 Ua _ A3.out).mono ?_
   rintro e w14 ⟨rfl, hb⟩; refine ⟨_, rfl, ?_⟩
   have n_ := an_ (blk_below (pk_ Ja.out) hb) <| an_ (blk_below (pk_ Ka.out) hb) <| Aside0.mk (below_step (pB_ HB.out) hb)
   clear Ja Ka HB;obtain ⟨Ja,Ka,HB⟩:=n_;(try clear hb);(try clear hb2);(try clear hk);(try clear hi);refine hK.out _ _ ⟨(blk_cell Ja.out 0).trans rfl,(blk_cell Ja.out 1).trans rfl,(blk_cell Ja.out 2).trans rfl,(blk_cell Ja.out 3).trans rfl,(blk_cell Ja.out 4).trans rfl,(blk_cell Ka.out 0).trans rfl,(blk_cell Ka.out 1).trans rfl,(blk_cell Ka.out 2).trans rfl,(blk_cell Ka.out 3).trans rfl,(blk_cell Ka.out 4).trans rfl,(blk_cell Ka.out 5).trans rfl⟩ (fun hHeld=>?_);clear hK K;refine nx_ (N:=some 9) ?_;refine oa_ 5 12 8 63 HT_ (fun K hK=>?_);refine goes_ Try.func53 (by kernel_rfl) rfl #[.agg #[.int .i64 a1_3,.int .i64 a1_4,.int .i64 a1_5]] (by rfl) rfl rfl Z8 ?_;with_reducible refine (impl_VecTop.calls a1_3 a1_4 a1_5 Xa _ A4.out).mono ?_
   rintro e w15 ⟨rfl, hb⟩; refine ⟨_, rfl, ?_⟩
   have n_ := an_ (blk_below (pk_ Ja.out) hb) <| an_ (blk_below (pk_ Ka.out) hb) <| Aside0.mk (below_step (pB_ HB.out) hb)
   clear Ja Ka HB;obtain ⟨Ja,Ka,HB⟩:=n_;(try clear hb);(try clear hb2);(try clear hk);(try clear hi);refine hK.out _ _ ⟨(blk_cell Ja.out 0).trans rfl,(blk_cell Ja.out 1).trans rfl,(blk_cell Ja.out 2).trans rfl,(blk_cell Ja.out 3).trans rfl,(blk_cell Ja.out 4).trans rfl,(blk_cell Ka.out 0).trans rfl,(blk_cell Ka.out 1).trans rfl,(blk_cell Ka.out 2).trans rfl,(blk_cell Ka.out 3).trans rfl,(blk_cell Ka.out 4).trans rfl,(blk_cell Ka.out 5).trans rfl⟩ (fun hHeld=>?_);clear hK K;refine nx_ (N:=some 12) ?_;refine pa_ 6 5 8 127 HT_ ?_;refine pa_ 7 6 8 255 HT_ ?_;refine done_ (done_of HT_.out (by kernel_rfl)) ?_;(try have hnb16:=Mb.out);(try have hnc16:=Kb.out);obtain ⟨Uc,Xc,Jd,Md,Od,Ud,Xd,Je,Ke,Me,Oe,Ue⟩:=cells6 Ka.out
   go_upto_if 30 with (first|((with_reducible refine gate_callee (f:=65) rfl ?_);refine goesL_ (some 15) rfl rfl Try.func65 (by kernel_rfl) rfl #[.int .i64 a1_0] rfl Z8 ?_;(with_reducible refine (impl_isFlow.calls a1_0 true _ A5.out).mono ?_);rintro e w' ⟨rfl,⟨nd,rfl⟩⟩;refine ⟨_,rfl,?_⟩)|(go_at_call 66;(with_reducible refine (impl_isWeight.calls a1_1 true _ A7.out).mono ?_);rintro e w' ⟨rfl,⟨nd,rfl⟩⟩;obtain ⟨Xe,Jf,Kf,Mf,Of,Uf,Xf,Jg,Kg,Mg⟩:=cells5 Ja.out)|(go_at_call 52;(with_reducible refine (impl_Narrow.calls a1_3 a1_4 a1_5 a0_0 Ob _ A9.out).mono ?_);rintro e w19 ⟨rfl,hb⟩;have n_:=an_ (blk_below (pk_ Ja.out) hb)<|an_ (blk_below (pk_ Ka.out) hb)<|Aside0.mk (below_step (pB_ HB.out) hb);clear Ja Ka HB;obtain ⟨Ja,Ka,HB⟩:=n_;(try clear hb);(try clear hb2);(try clear hk);(try clear hi)))
   have H := HU10.out; clear HU10
   by_cases c20 : Ob = true
   ·subst c20
    rw [if_pos rfl] at H; obtain ⟨Jb, A210, H⟩ := Option.bind_eq_some_iff.mp H; (try dsimp only at H); have A21 := Aside0.mk A210; clear A210
    by_cases c22 : Xa ≤ (wrap64 (Ua + (wrap64 (Jb * 2000))))
    ·rw [if_pos c22] at H
     have c22b0:decide (Xa≤(wrap64 (Ua + (wrap64 (Jb * 2000)))))=true:=decide_eq_true c22;clear c22;(first|rw [c22b0]|(simp only [i64_w,i32_w];rw [c22b0])|(have cz_:=c22b0;simp only [bne,gt_iff_lt,Int.natCast_pos] at cz_;first|rw [cz_]|(simp only [i64_w,i32_w];rw [cz_]))|skip)
     by_cases c23 : a1_2 = true
     ·subst c23
      rw [if_pos rfl] at H; obtain rfl := Option.some.inj H; (try have hnb24 := Mb.out); (try have hnc24 := Kb.out); obtain ⟨Og, Ug, Xg, Jh, Kh, Mh, Oh, Uh, Xh, Ji, Ki, Mi⟩ := cells6 Ka.out
      go_wp2_with (first|((with_reducible refine gate_callee (f:=67) rfl ?_);refine goesL_ (some 35) rfl rfl Try.func67 (by kernel_rfl) rfl #[.int .i64 a1_1] rfl Z8 ?_;(with_reducible refine (impl_Stride.calls a1_1 Jb _ A21.out).mono ?_);rintro e w' ⟨rfl,⟨nd,rfl⟩⟩;refine ⟨_,rfl,?_⟩))
      go_ret; exact ⟨by first | rfl | (simp [errW_none, errW_some] <;> rfl) | (simp [*, errW_none, errW_some] <;> rfl), pB_ HB.out⟩
     ·replace c23 := Bool.eq_false_iff.mpr c23
      subst c23;rw [if_neg (show ¬ (false=true) by decide)] at H;obtain rfl:=Option.some.inj H;(try have hnb26:=Mb.out);(try have hnc26:=Kb.out);obtain ⟨Oi,Ui,Xi,Jj,Kj,Mj,Oj,Uj,Xj,Jk,Kk,Mk⟩:=cells6 Ka.out
      go_wp2_with (first|((with_reducible refine gate_callee (f:=67) rfl ?_);refine goesL_ (some 35) rfl rfl Try.func67 (by kernel_rfl) rfl #[.int .i64 a1_1] rfl Z8 ?_;(with_reducible refine (impl_Stride.calls a1_1 Jb _ A21.out).mono ?_);rintro e w' ⟨rfl,⟨nd,rfl⟩⟩;refine ⟨_,rfl,?_⟩))
      go_ret; exact ⟨by first | rfl | (simp [errW_none, errW_some] <;> rfl) | (simp [*, errW_none, errW_some] <;> rfl), pB_ HB.out⟩
    ·rw [if_neg c22] at H
     have c22b0:decide (Xa≤(wrap64 (Ua + (wrap64 (Jb * 2000)))))=false:=decide_eq_false c22;clear c22;(first|rw [c22b0]|(simp only [i64_w,i32_w];rw [c22b0])|(have cz_:=c22b0;simp only [bne,gt_iff_lt,Int.natCast_pos] at cz_;first|rw [cz_]|(simp only [i64_w,i32_w];rw [cz_]))|skip);obtain rfl:=Option.some.inj H;(try have hnb28:=Mb.out);(try have hnc28:=Kb.out);obtain ⟨Ok,Uk,Xk,Jm,Km,Mm,Om,Um,Xm,Jn,Kn,Mn⟩:=cells6 Ka.out
     go_wp2_with (first|((with_reducible refine gate_callee (f:=67) rfl ?_);refine goesL_ (some 35) rfl rfl Try.func67 (by kernel_rfl) rfl #[.int .i64 a1_1] rfl Z8 ?_;(with_reducible refine (impl_Stride.calls a1_1 Jb _ A21.out).mono ?_);rintro e w' ⟨rfl,⟨nd,rfl⟩⟩;refine ⟨_,rfl,?_⟩))
     go_ret; exact ⟨by first | rfl | (simp [errW_none, errW_some] <;> rfl) | (simp [*, errW_none, errW_some] <;> rfl), pB_ HB.out⟩
   ·replace c20 := Bool.eq_false_iff.mpr c20
    subst c20; rw [if_neg (show ¬ (false = true) by decide)] at H; obtain rfl := Option.some.inj H
    go_wp2
    go_ret; exact ⟨by first | rfl | (simp [errW_none, errW_some] <;> rfl) | (simp [*, errW_none, errW_some] <;> rfl), pB_ HB.out⟩
  ·replace c8 := Bool.eq_false_iff.mpr c8
   subst c8; rw [if_neg (show ¬ (false = true) by decide)] at H; obtain rfl := Option.some.inj H; go_enter Try.func54, Try.ntmps54
   try go_wp2_with (first|((with_reducible refine gate_dst (N:=2) rfl ?_);refine box_event ?hg (N:=2) ?hd (cs:=#[.int .i64 a0_0,.int .i64 a0_1,.int .i64 a0_2,.int .i64 a0_3,.slice A0_4 l0_4.length c0_4]) (t:=34) ?hr ?_;(case hd=>rfl);(case hg=>rfl);(case hr=>first|(go_simp;done)|(go_simp;rfl));intro Ma hg w30 hbox hb;have n_:=an_ (below_step (pB_ HB.out) hb)<|an_ (hbox)<|an_ ((by rw [hg];exact (below_size (pB_ HB.out)):w.heap.size≤Ma))<|Aside0.mk ((by rw [hg];exact (below_size (pB_ HB.out)):w.heap.size≤Ma));clear HB;obtain ⟨HB,Ja,Jc,Kc⟩:=n_;clear hb hbox hg)|((with_reducible refine gate_dst (N:=3) rfl ?_);refine box_event ?hg (N:=3) ?hd (cs:=#[.int .i64 a1_0,.int .i64 a1_1,.bool a1_2,.int .i64 a1_3,.int .i64 a1_4,.int .i64 a1_5]) (t:=61) ?hr ?_;(case hd=>rfl);(case hg=>rfl);(case hr=>first|(go_simp;done)|(go_simp;rfl));intro Oa hg w31 hbox hb;have n_:=an_ (blk_below (pk_ Ja.out) hb)<|an_ (below_step (pB_ HB.out) hb)<|an_ (hbox)<|an_ ((by rw [hg];exact (below_size (pB_ HB.out)):w.heap.size≤Oa))<|an_ ((by rw [hg];exact (below_size (pB_ HB.out)):w.heap.size≤Oa))<|an_ ((by rw [hg];exact Nat.ne_of_lt (blk_lt (pk_ Ja.out)):Ma≠Oa))<|Aside0.mk ((by rw [hg];exact Nat.ne_of_gt (blk_lt (pk_ Ja.out)):Oa≠Ma));clear Ja HB;obtain ⟨Ja,HB,Ka,Mc,Oc,Kb,Mb⟩:=n_;clear hb hbox hg))
   have n_ := an_ (blk_drew Ja.out) <| an_ (blk_drew Ka.out) <| Aside0.mk (below_drew1 HB.out)
   clear Ja Ka HB;obtain ⟨Ja,Ka,HB⟩:=n_;refine start_ (n:=8) (S:=fun w'=>w'.cell? ⟨Ma,0,none⟩=some (.int .i64 a0_0)∧w'.cell? ⟨Ma,1,none⟩=some (.int .i64 a0_1)∧w'.cell? ⟨Ma,2,none⟩=some (.int .i64 a0_2)∧w'.cell? ⟨Ma,3,none⟩=some (.int .i64 a0_3)∧w'.cell? ⟨Ma,4,none⟩=some (.slice A0_4 l0_4.length c0_4)∧w'.cell? ⟨Oa,0,none⟩=some (.int .i64 a1_0)∧w'.cell? ⟨Oa,1,none⟩=some (.int .i64 a1_1)∧w'.cell? ⟨Oa,2,none⟩=some (.bool a1_2)∧w'.cell? ⟨Oa,3,none⟩=some (.int .i64 a1_3)∧w'.cell? ⟨Oa,4,none⟩=some (.int .i64 a1_4)∧w'.cell? ⟨Oa,5,none⟩=some (.int .i64 a1_5)) (ds:=[]) (bz 8 0) (by kernel_rfl) rfl (by kernel_rfl) ⟨(blk_cell Ja.out 0).trans rfl,(blk_cell Ja.out 1).trans rfl,(blk_cell Ja.out 2).trans rfl,(blk_cell Ja.out 3).trans rfl,(blk_cell Ja.out 4).trans rfl,(blk_cell Ka.out 0).trans rfl,(blk_cell Ka.out 1).trans rfl,(blk_cell Ka.out 2).trans rfl,(blk_cell Ka.out 3).trans rfl,(blk_cell Ka.out 4).trans rfl,(blk_cell Ka.out 5).trans rfl⟩ (fun hHeld=>?_);refine with_tabW impl_Fair_kidOk.tab1 impl_Fair_kidOk.bits1 (fun HT_ HW_=>?_);generalize w31.drew=w32 at Ja Ka HB hHeld ⊢;refine pa_ 0 7 8 1 HT_ ?_;refine pa_ 3 10 8 9 HT_ ?_;refine ta_ 1 8 8 11 HT_ HW_ rfl rfl hHeld Z22 ?_;refine ta_ 4 11 8 27 HT_ HW_ rfl rfl hHeld Z22 ?_;refine oa_ 2 9 8 31 HT_ (fun K hK=>?_);refine goes_ Try.func53 (by kernel_rfl) rfl #[.agg #[.int .i64 a0_1,.int .i64 a0_2,.int .i64 a0_3]] (by rfl) rfl rfl Z8 ?_;with_reducible refine (impl_VecTop.calls a0_1 a0_2 a0_3 Ua _ A3.out).mono ?_
   rintro e w33 ⟨rfl, hb⟩; refine ⟨_, rfl, ?_⟩
   have n_ := an_ (blk_below (pk_ Ja.out) hb) <| an_ (blk_below (pk_ Ka.out) hb) <| Aside0.mk (below_step (pB_ HB.out) hb)
   clear Ja Ka HB;obtain ⟨Ja,Ka,HB⟩:=n_;(try clear hb);(try clear hb2);(try clear hk);(try clear hi);refine hK.out _ _ ⟨(blk_cell Ja.out 0).trans rfl,(blk_cell Ja.out 1).trans rfl,(blk_cell Ja.out 2).trans rfl,(blk_cell Ja.out 3).trans rfl,(blk_cell Ja.out 4).trans rfl,(blk_cell Ka.out 0).trans rfl,(blk_cell Ka.out 1).trans rfl,(blk_cell Ka.out 2).trans rfl,(blk_cell Ka.out 3).trans rfl,(blk_cell Ka.out 4).trans rfl,(blk_cell Ka.out 5).trans rfl⟩ (fun hHeld=>?_);clear hK K;refine nx_ (N:=some 9) ?_;refine oa_ 5 12 8 63 HT_ (fun K hK=>?_);refine goes_ Try.func53 (by kernel_rfl) rfl #[.agg #[.int .i64 a1_3,.int .i64 a1_4,.int .i64 a1_5]] (by rfl) rfl rfl Z8 ?_;with_reducible refine (impl_VecTop.calls a1_3 a1_4 a1_5 Xa _ A4.out).mono ?_
   rintro e w34 ⟨rfl, hb⟩; refine ⟨_, rfl, ?_⟩
   have n_ := an_ (blk_below (pk_ Ja.out) hb) <| an_ (blk_below (pk_ Ka.out) hb) <| Aside0.mk (below_step (pB_ HB.out) hb)
   clear Ja Ka HB;obtain ⟨Ja,Ka,HB⟩:=n_;(try clear hb);(try clear hb2);(try clear hk);(try clear hi);refine hK.out _ _ ⟨(blk_cell Ja.out 0).trans rfl,(blk_cell Ja.out 1).trans rfl,(blk_cell Ja.out 2).trans rfl,(blk_cell Ja.out 3).trans rfl,(blk_cell Ja.out 4).trans rfl,(blk_cell Ka.out 0).trans rfl,(blk_cell Ka.out 1).trans rfl,(blk_cell Ka.out 2).trans rfl,(blk_cell Ka.out 3).trans rfl,(blk_cell Ka.out 4).trans rfl,(blk_cell Ka.out 5).trans rfl⟩ (fun hHeld=>?_);clear hK K;refine nx_ (N:=some 12) ?_;refine pa_ 6 5 8 127 HT_ ?_;refine pa_ 7 6 8 255 HT_ ?_;refine done_ (done_of HT_.out (by kernel_rfl)) ?_;(try have hnb35:=Mb.out);(try have hnc35:=Kb.out);obtain ⟨On,Un,Xn,Jo,Ko,Mo,Oo,Uo,Xo,Jp,Kp,Mp⟩:=cells6 Ka.out
   try go_wp2_with (first|((with_reducible refine gate_callee (f:=65) rfl ?_);refine goesL_ (some 15) rfl rfl Try.func65 (by kernel_rfl) rfl #[.int .i64 a1_0] rfl Z8 ?_;(with_reducible refine (impl_isFlow.calls a1_0 true _ A5.out).mono ?_);rintro e w' ⟨rfl,⟨nd,rfl⟩⟩;refine ⟨_,rfl,?_⟩)|(go_at_call 66;(with_reducible refine (impl_isWeight.calls a1_1 false _ A7.out).mono ?_);rintro e w' ⟨rfl,⟨nd,rfl⟩⟩))
   go_ret; exact ⟨by first | rfl | (simp [errW_none, errW_some] <;> rfl) | (simp [*, errW_none, errW_some] <;> rfl), pB_ HB.out⟩
 ·replace c6 := Bool.eq_false_iff.mpr c6
  subst c6; rw [if_neg (show ¬ (false = true) by decide)] at H; obtain rfl := Option.some.inj H; go_enter Try.func54, Try.ntmps54
  try go_wp2_with (first|((with_reducible refine gate_dst (N:=2) rfl ?_);refine box_event ?hg (N:=2) ?hd (cs:=#[.int .i64 a0_0,.int .i64 a0_1,.int .i64 a0_2,.int .i64 a0_3,.slice A0_4 l0_4.length c0_4]) (t:=34) ?hr ?_;(case hd=>rfl);(case hg=>rfl);(case hr=>first|(go_simp;done)|(go_simp;rfl));intro Ma hg w37 hbox hb;have n_:=an_ (below_step (pB_ HB.out) hb)<|an_ (hbox)<|an_ ((by rw [hg];exact (below_size (pB_ HB.out)):w.heap.size≤Ma))<|Aside0.mk ((by rw [hg];exact (below_size (pB_ HB.out)):w.heap.size≤Ma));clear HB;obtain ⟨HB,Ja,Jc,Kc⟩:=n_;clear hb hbox hg)|((with_reducible refine gate_dst (N:=3) rfl ?_);refine box_event ?hg (N:=3) ?hd (cs:=#[.int .i64 a1_0,.int .i64 a1_1,.bool a1_2,.int .i64 a1_3,.int .i64 a1_4,.int .i64 a1_5]) (t:=61) ?hr ?_;(case hd=>rfl);(case hg=>rfl);(case hr=>first|(go_simp;done)|(go_simp;rfl));intro Oa hg w38 hbox hb;have n_:=an_ (blk_below (pk_ Ja.out) hb)<|an_ (below_step (pB_ HB.out) hb)<|an_ (hbox)<|an_ ((by rw [hg];exact (below_size (pB_ HB.out)):w.heap.size≤Oa))<|an_ ((by rw [hg];exact (below_size (pB_ HB.out)):w.heap.size≤Oa))<|an_ ((by rw [hg];exact Nat.ne_of_lt (blk_lt (pk_ Ja.out)):Ma≠Oa))<|Aside0.mk ((by rw [hg];exact Nat.ne_of_gt (blk_lt (pk_ Ja.out)):Oa≠Ma));clear Ja HB;obtain ⟨Ja,HB,Ka,Mc,Oc,Kb,Mb⟩:=n_;clear hb hbox hg))
  have n_ := an_ (blk_drew Ja.out) <| an_ (blk_drew Ka.out) <| Aside0.mk (below_drew1 HB.out)
  clear Ja Ka HB;obtain ⟨Ja,Ka,HB⟩:=n_;refine start_ (n:=8) (S:=fun w'=>w'.cell? ⟨Ma,0,none⟩=some (.int .i64 a0_0)∧w'.cell? ⟨Ma,1,none⟩=some (.int .i64 a0_1)∧w'.cell? ⟨Ma,2,none⟩=some (.int .i64 a0_2)∧w'.cell? ⟨Ma,3,none⟩=some (.int .i64 a0_3)∧w'.cell? ⟨Ma,4,none⟩=some (.slice A0_4 l0_4.length c0_4)∧w'.cell? ⟨Oa,0,none⟩=some (.int .i64 a1_0)∧w'.cell? ⟨Oa,1,none⟩=some (.int .i64 a1_1)∧w'.cell? ⟨Oa,2,none⟩=some (.bool a1_2)∧w'.cell? ⟨Oa,3,none⟩=some (.int .i64 a1_3)∧w'.cell? ⟨Oa,4,none⟩=some (.int .i64 a1_4)∧w'.cell? ⟨Oa,5,none⟩=some (.int .i64 a1_5)) (ds:=[]) (bz 8 0) (by kernel_rfl) rfl (by kernel_rfl) ⟨(blk_cell Ja.out 0).trans rfl,(blk_cell Ja.out 1).trans rfl,(blk_cell Ja.out 2).trans rfl,(blk_cell Ja.out 3).trans rfl,(blk_cell Ja.out 4).trans rfl,(blk_cell Ka.out 0).trans rfl,(blk_cell Ka.out 1).trans rfl,(blk_cell Ka.out 2).trans rfl,(blk_cell Ka.out 3).trans rfl,(blk_cell Ka.out 4).trans rfl,(blk_cell Ka.out 5).trans rfl⟩ (fun hHeld=>?_);refine with_tabW impl_Fair_kidOk.tab1 impl_Fair_kidOk.bits1 (fun HT_ HW_=>?_);generalize w38.drew=w39 at Ja Ka HB hHeld ⊢;refine pa_ 0 7 8 1 HT_ ?_;refine pa_ 3 10 8 9 HT_ ?_;refine ta_ 1 8 8 11 HT_ HW_ rfl rfl hHeld Z22 ?_;refine ta_ 4 11 8 27 HT_ HW_ rfl rfl hHeld Z22 ?_;refine oa_ 2 9 8 31 HT_ (fun K hK=>?_);refine goes_ Try.func53 (by kernel_rfl) rfl #[.agg #[.int .i64 a0_1,.int .i64 a0_2,.int .i64 a0_3]] (by rfl) rfl rfl Z8 ?_;with_reducible refine (impl_VecTop.calls a0_1 a0_2 a0_3 Ua _ A3.out).mono ?_
  rintro e w40 ⟨rfl, hb⟩; refine ⟨_, rfl, ?_⟩
  have n_ := an_ (blk_below (pk_ Ja.out) hb) <| an_ (blk_below (pk_ Ka.out) hb) <| Aside0.mk (below_step (pB_ HB.out) hb)
  clear Ja Ka HB;obtain ⟨Ja,Ka,HB⟩:=n_;(try clear hb);(try clear hb2);(try clear hk);(try clear hi);refine hK.out _ _ ⟨(blk_cell Ja.out 0).trans rfl,(blk_cell Ja.out 1).trans rfl,(blk_cell Ja.out 2).trans rfl,(blk_cell Ja.out 3).trans rfl,(blk_cell Ja.out 4).trans rfl,(blk_cell Ka.out 0).trans rfl,(blk_cell Ka.out 1).trans rfl,(blk_cell Ka.out 2).trans rfl,(blk_cell Ka.out 3).trans rfl,(blk_cell Ka.out 4).trans rfl,(blk_cell Ka.out 5).trans rfl⟩ (fun hHeld=>?_);clear hK K;refine nx_ (N:=some 9) ?_;refine oa_ 5 12 8 63 HT_ (fun K hK=>?_);refine goes_ Try.func53 (by kernel_rfl) rfl #[.agg #[.int .i64 a1_3,.int .i64 a1_4,.int .i64 a1_5]] (by rfl) rfl rfl Z8 ?_;with_reducible refine (impl_VecTop.calls a1_3 a1_4 a1_5 Xa _ A4.out).mono ?_
  rintro e w41 ⟨rfl, hb⟩; refine ⟨_, rfl, ?_⟩
  have n_ := an_ (blk_below (pk_ Ja.out) hb) <| an_ (blk_below (pk_ Ka.out) hb) <| Aside0.mk (below_step (pB_ HB.out) hb)
  clear Ja Ka HB;obtain ⟨Ja,Ka,HB⟩:=n_;(try clear hb);(try clear hb2);(try clear hk);(try clear hi);refine hK.out _ _ ⟨(blk_cell Ja.out 0).trans rfl,(blk_cell Ja.out 1).trans rfl,(blk_cell Ja.out 2).trans rfl,(blk_cell Ja.out 3).trans rfl,(blk_cell Ja.out 4).trans rfl,(blk_cell Ka.out 0).trans rfl,(blk_cell Ka.out 1).trans rfl,(blk_cell Ka.out 2).trans rfl,(blk_cell Ka.out 3).trans rfl,(blk_cell Ka.out 4).trans rfl,(blk_cell Ka.out 5).trans rfl⟩ (fun hHeld=>?_);clear hK K;refine nx_ (N:=some 12) ?_;refine pa_ 6 5 8 127 HT_ ?_;refine pa_ 7 6 8 255 HT_ ?_;refine done_ (done_of HT_.out (by kernel_rfl)) ?_;(try have hnb42:=Mb.out);(try have hnc42:=Kb.out);obtain ⟨Op,Up,Xp,Jq,Kq,Mq,Oq,Uq,Xq,Jr,Kr,Mr⟩:=cells6 Ka.out
  try go_wp2_with (first|((with_reducible refine gate_callee (f:=65) rfl ?_);refine goesL_ (some 15) rfl rfl Try.func65 (by kernel_rfl) rfl #[.int .i64 a1_0] rfl Z8 ?_;(with_reducible refine (impl_isFlow.calls a1_0 false _ A5.out).mono ?_);rintro e w' ⟨rfl,⟨nd,rfl⟩⟩;refine ⟨_,rfl,?_⟩))
  go_ret; exact ⟨by first | rfl | (simp [errW_none, errW_some] <;> rfl) | (simp [*, errW_none, errW_some] <;> rfl), pB_ HB.out⟩

end Go.Proofs.Ytolphjnajopknaa.PFnExactTreeRebase
