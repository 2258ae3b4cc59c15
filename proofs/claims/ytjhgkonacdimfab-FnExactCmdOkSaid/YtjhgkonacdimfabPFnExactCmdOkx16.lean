-- by a program of this session's, over the kit's words
import Derived.Test.YtjhgkonacdimfabPZFnExactCmdOk
import Derived.Test.YtjhgkonacdimfabPFnExactCmdOkx0
import Derived.Test.YtjhgkonacdimfabPFnExactCmdOkx2
namespace Go.Proofs.Ytjhgkonacdimfab.PFnExactCmdOk
open Go.RowKit Go.Proofs.YtjhgkonacdimfabW.PrintWords Go.Proofs.YtjhgkonacdimfabW.PrintLast Go.Proofs.YtjhgkonacdimfabW.PrintMore Go.Proofs.YtjhgkonacdimfabV Go.Proofs.Ytjhgkonacdimfab.ZFnExactCmdOk
open Go.Value renaming int → I, slice → Y
open Go.IntKind renaming i64 → L
open Aside0 renaming mk → D
open Option renaming bind_eq_some_iff → bs_
attribute [local go_sem] max2_int min2_int max_two min_two max_three min_three max_four min_four   -- for this text's walks alone
set_option linter.unusedVariables false
set_option linter.unusedSimpArgs false

attribute [local go_sem high] eqA37
/-! ### laws_toAddr: function 46 -/
def laws_toAddr.f (a0_0 a0_1 a0_2 a0_3 a0_4 : Int) : Option (Int × Int × Int × Int × Int) := some (a0_0, a0_1, a0_2, a0_3, a0_4)
set_option maxHeartbeats 8000000 in
set_option maxRecDepth 100000 in
theorem laws_toAddr.calls (a0_0 a0_1 a0_2 a0_3 a0_4 r1 r2 r3 r4 r5 : Int) (w : World) (h : laws_toAddr.f a0_0 a0_1 a0_2 a0_3 a0_4 = some (r1, r2, r3, r4, r5)) :
  Calls Try.prog 46 #[.agg #[I L a0_0,I L a0_1,I L a0_2,I L a0_3,I L a0_4]] w fun e w'=>e=.returned (.agg #[I L r1,I L r2,I L r3,I L r4,I L r5])∧Below w.heap.size w w':=by
 have hu23 := Try.underlying23
 have hu35 := Try.underlying35
 have HB := D (Below.refl w.heap.size w)
 have H : (some (a0_0, a0_1, a0_2, a0_3, a0_4)) = some (r1, r2, r3, r4, r5) := h
 clear h
 simp only [Option.some.injEq, Prod.mk.injEq] at H
 obtain ⟨rfl, rfl, rfl, rfl, rfl⟩ := H
 go_enter Try.func46, Try.ntmps46
 go_wp2_with (first|((with_reducible refine gate_dst (N:=1) rfl ?_);refine bx_ (N:=1) (cs:=#[I L a0_0,I L a0_1,I L a0_2,I L a0_3,I L a0_4]) (t:=23) ?_;intro gb228 hg w2 hbox hb;have n_:=an_ (below_step (pB_ HB.out) hb)<|an_ (hbox)<|an_ (bg_ hg (pB_ HB.out):w.heap.size≤gb228)<|D (bg_ hg (pB_ HB.out):w.heap.size≤gb228);clear HB;obtain ⟨HB,BK228,GW228,GE228⟩:=n_;clear hb hbox hg)|((with_reducible refine gate_dst (N:=2) rfl ?_);refine bx_ (N:=2) (cs:=#[I L 0,I L 0,I L 0,I L 0,I L 0]) (t:=35) ?_;intro gb229 hg w3 hbox hb;have n_:=an_ (blk_below (pk_ BK228.out) hb)<|an_ (below_step (pB_ HB.out) hb)<|an_ (hbox)<|an_ (bg_ hg (pB_ HB.out):w.heap.size≤gb229)<|an_ (bg_ hg (pB_ HB.out):w.heap.size≤gb229)<|an_ (nl_ hg (pk_ BK228.out):gb228≠gb229)<|D (by rw [hg];exact Nat.ne_of_gt (blk_lt (pk_ BK228.out)):gb229≠gb228);clear BK228 HB;obtain ⟨BK228,HB,BK229,GW229,GE229,NB228_229,NB229_228⟩:=n_;clear hb hbox hg)|((with_reducible refine gate_dst (N:=3) rfl ?_);refine bx_ (N:=3) (cs:=#[I L 0,I L 0,I L 0,I L 0,I L 0]) (t:=35) ?_;intro gb230 hg w4 hbox hb;have n_:=an_ (blk_below (pk_ BK228.out) hb)<|an_ (blk_below (pk_ BK229.out) hb)<|an_ (below_step (pB_ HB.out) hb)<|an_ (hbox)<|an_ (bg_ hg (pB_ HB.out):w.heap.size≤gb230)<|an_ (bg_ hg (pB_ HB.out):w.heap.size≤gb230)<|an_ (nl_ hg (pk_ BK228.out):gb228≠gb230)<|an_ (ng_ hg (pk_ BK228.out):gb230≠gb228)<|an_ (nl_ hg (pk_ BK229.out):gb229≠gb230)<|D (by rw [hg];exact Nat.ne_of_gt (blk_lt (pk_ BK229.out)):gb230≠gb229);clear BK228 BK229 HB;obtain ⟨BK228,BK229,HB,BK230,GW230,GE230,NB228_230,NB230_228,NB229_230,NB230_229⟩:=n_;clear hb hbox hg;(try have:=NB228_229.out);(try have:=NB229_228.out);(try have:=NB228_230.out);(try have:=NB230_228.out);have hcz7_0:=cells5 BK228.out;(try have:=NB230_229.out);(try have:=NB229_230.out);have hcz9_0:=cells5 BK230.out;have hcz10_0:=cells5 BK229.out))
 refine bodyPost_ret (results_cell_row rfl _ _ gb229 35 #[I L a0_0,I L a0_1,I L a0_2,I L a0_3,I L a0_4] (0,0) _ rfl (by exact pP_ BK229.out) Try.underlying35 rfl (by kernel_rfl)) rfl ?_
 exact ⟨er_, pB_ HB.out⟩

/-! ### laws_toPrefix: function 30 -/
def laws_toPrefix.f (a0_0 a0_1 a0_2 a0_3 a0_4 a0_5 : Int) : Option (Int × Int × Int × Int × Int × Int) := (laws_toAddr.f a0_0 a0_1 a0_2 a0_3 a0_4).bind fun bt234 => (some (bt234.1, bt234.2.1, bt234.2.2.1, bt234.2.2.2.1, bt234.2.2.2.2, a0_5))
set_option maxHeartbeats 8000000 in
set_option maxRecDepth 100000 in
theorem laws_toPrefix.calls (a0_0 a0_1 a0_2 a0_3 a0_4 a0_5 r1 r2 r3 r4 r5 r6 : Int) (w : World) (h : laws_toPrefix.f a0_0 a0_1 a0_2 a0_3 a0_4 a0_5 = some (r1, r2, r3, r4, r5, r6)) :
  Calls Try.prog 30 #[.agg #[I L a0_0,I L a0_1,I L a0_2,I L a0_3,I L a0_4,I L a0_5]] w fun e w'=>e=.returned (.agg #[I L r1,I L r2,I L r3,I L r4,I L r5,I L r6])∧Below w.heap.size w w':=by
 have hu25 := Try.underlying25
 have hu37 := Try.underlying37
 have hu23 := Try.underlying23
 have hu35 := Try.underlying35
 have HB := D (Below.refl w.heap.size w)
 have H : ((laws_toAddr.f a0_0 a0_1 a0_2 a0_3 a0_4).bind fun bt234 => (some (bt234.1, bt234.2.1, bt234.2.2.1, bt234.2.2.2.1, bt234.2.2.2.2, a0_5))) = some (r1, r2, r3, r4, r5, r6) := h
 clear h
 obtain ⟨⟨t234, t235, t236, t237, t238⟩, A20, H⟩ := bs_.mp H
 (try dsimp only at H)
 have A2 := D A20
 clear A20
 simp only [Option.some.injEq, Prod.mk.injEq] at H
 obtain ⟨rfl, rfl, rfl, rfl, rfl, rfl⟩ := H
 go_enter Try.func30, Try.ntmps30
 go_wp2_with (first|((with_reducible refine gate_dst (N:=1) rfl ?_);refine bx_ (N:=1) (cs:=#[I L a0_0,I L a0_1,I L a0_2,I L a0_3,I L a0_4,I L a0_5]) (t:=25) ?_;intro gb231 hg w3 hbox hb;have n_:=an_ (below_step (pB_ HB.out) hb)<|an_ (hbox)<|an_ (bg_ hg (pB_ HB.out):w.heap.size≤gb231)<|D (bg_ hg (pB_ HB.out):w.heap.size≤gb231);clear HB;obtain ⟨HB,BK231,GW231,GE231⟩:=n_;clear hb hbox hg)|((with_reducible refine gate_dst (N:=2) rfl ?_);refine bx_ (N:=2) (cs:=#[I L 0,I L 0,I L 0,I L 0,I L 0,I L 0]) (t:=37) ?_;intro gb232 hg w4 hbox hb;have n_:=an_ (blk_below (pk_ BK231.out) hb)<|an_ (below_step (pB_ HB.out) hb)<|an_ (hbox)<|an_ (bg_ hg (pB_ HB.out):w.heap.size≤gb232)<|an_ (bg_ hg (pB_ HB.out):w.heap.size≤gb232)<|an_ (nl_ hg (pk_ BK231.out):gb231≠gb232)<|D (by rw [hg];exact Nat.ne_of_gt (blk_lt (pk_ BK231.out)):gb232≠gb231);clear BK231 HB;obtain ⟨BK231,HB,BK232,GW232,GE232,NB231_232,NB232_231⟩:=n_;clear hb hbox hg)|((with_reducible refine gate_dst (N:=3) rfl ?_);refine bx_ (N:=3) (cs:=#[I L 0,I L 0,I L 0,I L 0,I L 0,I L 0]) (t:=37) ?_;intro gb233 hg w5 hbox hb;have n_:=an_ (blk_below (pk_ BK231.out) hb)<|an_ (blk_below (pk_ BK232.out) hb)<|an_ (below_step (pB_ HB.out) hb)<|an_ (hbox)<|an_ (bg_ hg (pB_ HB.out):w.heap.size≤gb233)<|an_ (bg_ hg (pB_ HB.out):w.heap.size≤gb233)<|an_ (nl_ hg (pk_ BK231.out):gb231≠gb233)<|an_ (ng_ hg (pk_ BK231.out):gb233≠gb231)<|an_ (nl_ hg (pk_ BK232.out):gb232≠gb233)<|D (by rw [hg];exact Nat.ne_of_gt (blk_lt (pk_ BK232.out)):gb233≠gb232);clear BK231 BK232 HB;obtain ⟨BK231,BK232,HB,BK233,GW233,GE233,NB231_233,NB233_231,NB232_233,NB233_232⟩:=n_;clear hb hbox hg;(try have:=NB231_232.out);(try have:=NB232_231.out);(try have:=NB231_233.out);(try have:=NB233_231.out);have hcz8_0:=cells6 BK231.out)|((with_reducible refine gate_callee (f:=46) rfl ?_);refine goesL_ (some 6) rfl rfl Try.func46 (by kernel_rfl) rfl #[.agg #[I L a0_0,I L a0_1,I L a0_2,I L a0_3,I L a0_4]] rfl Z6 ?_;(with_reducible refine (laws_toAddr.calls a0_0 a0_1 a0_2 a0_3 a0_4 t234 t235 t236 t237 t238 _ A2.out).mono ?_);rintro e w9 ⟨rfl,hb⟩;refine ⟨_,rfl,?_⟩;have n_:=an_ (blk_below (pk_ BK231.out) hb)<|an_ (blk_below (pk_ BK232.out) hb)<|an_ (blk_below (pk_ BK233.out) hb)<|D (below_step (pB_ HB.out) hb);clear BK231 BK232 BK233 HB;obtain ⟨BK231,BK232,BK233,HB⟩:=n_;(try clear hb);(try have:=NB233_232.out);(try have:=NB232_233.out);have hcz11_0:=cells6 BK233.out;have hcz12_0:=cells6 BK231.out;have hcz13_0:=cells6 BK232.out))
 refine bodyPost_ret (results_cell_row rfl _ _ gb232 37 #[I L t234,I L t235,I L t236,I L t237,I L t238,I L a0_5] (0,0) _ rfl (by exact pP_ BK232.out) Try.underlying37 rfl (by kernel_rfl)) rfl ?_
 exact ⟨er_, pB_ HB.out⟩

/-! ### laws_toRule: function 15 -/
def laws_toRule.f (a0_0 a0_1 a0_2 a0_3 a0_4 a0_5 a0_6 a0_7 a0_8 a0_9 a0_10 a0_11 a0_12 a0_13 a0_14 a0_15 a0_16 a0_17 a0_18 a0_19 a0_20 : Int) : Option (Int × Int × Int × Int × Int × Int × Int × Int × Int × Int × Int × Int × Int × Int × Int × Int × Int × Int × Int × Int × Int) := (laws_toPrefix.f a0_1 a0_2 a0_3 a0_4 a0_5 a0_6).bind fun bt242 => ((laws_toPrefix.f a0_7 a0_8 a0_9 a0_10 a0_11 a0_12).bind fun bt248 => (some (a0_0, bt242.1, bt242.2.1, bt242.2.2.1, bt242.2.2.2.1, bt242.2.2.2.2.1, bt242.2.2.2.2.2, bt248.1, bt248.2.1, bt248.2.2.1, bt248.2.2.2.1, bt248.2.2.2.2.1, bt248.2.2.2.2.2, a0_13, a0_14, a0_15, a0_16, a0_17, a0_18, a0_19, a0_20)))
set_option maxHeartbeats 8000000 in
set_option maxRecDepth 100000 in
theorem laws_toRule.calls (a0_0 a0_1 a0_2 a0_3 a0_4 a0_5 a0_6 a0_7 a0_8 a0_9 a0_10 a0_11 a0_12 a0_13 a0_14 a0_15 a0_16 a0_17 a0_18 a0_19 a0_20 r1 r2 r3 r4 r5 r6 r7 r8 r9 r10 r11 r12 r13 r14 r15 r16 r17 r18 r19 r20 r21 : Int) (w : World) (h : laws_toRule.f a0_0 a0_1 a0_2 a0_3 a0_4 a0_5 a0_6 a0_7 a0_8 a0_9 a0_10 a0_11 a0_12 a0_13 a0_14 a0_15 a0_16 a0_17 a0_18 a0_19 a0_20 = some (r1, r2, r3, r4, r5, r6, r7, r8, r9, r10, r11, r12, r13, r14, r15, r16, r17, r18, r19, r20, r21)) :
  Calls Try.prog 15 #[.agg #[I L a0_0,I L a0_1,I L a0_2,I L a0_3,I L a0_4,I L a0_5,I L a0_6,I L a0_7,I L a0_8,I L a0_9,I L a0_10,I L a0_11,I L a0_12,I L a0_13,I L a0_14,I L a0_15,I L a0_16,I L a0_17,I L a0_18,I L a0_19,I L a0_20]] w fun e w'=>e=.returned (.agg #[I L r1,I L r2,I L r3,I L r4,I L r5,I L r6,I L r7,I L r8,I L r9,I L r10,I L r11,I L r12,I L r13,I L r14,I L r15,I L r16,I L r17,I L r18,I L r19,I L r20,I L r21])∧Below w.heap.size w w':=by
 have hu27 := Try.underlying27
 have hu39 := Try.underlying39
 have hu25 := Try.underlying25
 have hu37 := Try.underlying37
 have HB := D (Below.refl w.heap.size w)
 have H:((laws_toPrefix.f a0_1 a0_2 a0_3 a0_4 a0_5 a0_6).bind fun bt242=>((laws_toPrefix.f a0_7 a0_8 a0_9 a0_10 a0_11 a0_12).bind fun bt248=>(some (a0_0,bt242.1,bt242.2.1,bt242.2.2.1,bt242.2.2.2.1,bt242.2.2.2.2.1,bt242.2.2.2.2.2,bt248.1,bt248.2.1,bt248.2.2.1,bt248.2.2.2.1,bt248.2.2.2.2.1,bt248.2.2.2.2.2,a0_13,a0_14,a0_15,a0_16,a0_17,a0_18,a0_19,a0_20))))=some (r1,r2,r3,r4,r5,r6,r7,r8,r9,r10,r11,r12,r13,r14,r15,r16,r17,r18,r19,r20,r21):=h
 clear h
 obtain ⟨⟨Jb, Kb, Mb, Ob, Xb, Jc⟩, A20, H⟩ := bs_.mp H
 (try dsimp only at H)
 have A2 := D A20
 clear A20
 obtain ⟨⟨Kc, Mc, Oc, Uc, Xc, Jd⟩, A30, H⟩ := bs_.mp H
 (try dsimp only at H)
 have A3 := D A30
 clear A30
 simp only [Option.some.injEq, Prod.mk.injEq] at H
 obtain ⟨rfl, rfl, rfl, rfl, rfl, rfl, rfl, rfl, rfl, rfl, rfl, rfl, rfl, rfl, rfl, rfl, rfl, rfl, rfl, rfl, rfl⟩ := H
 go_enter Try.func15, Try.ntmps15
 go_wp2_with (first|((with_reducible refine gld_ 25 rfl ?_);(first|refine la25o1_ ?_|refine la25o7_ ?_))|((with_reducible refine gst_ 37 rfl ?_);(first|refine sa37o1_ ?_|refine sa37o7_ ?_))|((with_reducible refine gst_ 3 rfl ?_);refine sc3_ ?_)|((with_reducible refine gld_ 3 rfl ?_);refine lc3_ ?_)|((with_reducible refine gst_ 27 rfl ?_);refine sa27_ ?_)|((with_reducible refine gld_ 27 rfl ?_);refine la27_ ?_)|((with_reducible refine gst_ 39 rfl ?_);refine sa39_ ?_)|((with_reducible refine gld_ 39 rfl ?_);refine la39_ ?_)|((with_reducible refine gate_dst (N:=1) rfl ?_);refine bx_ (N:=1) (cs:=#[I L a0_0,I L a0_1,I L a0_2,I L a0_3,I L a0_4,I L a0_5,I L a0_6,I L a0_7,I L a0_8,I L a0_9,I L a0_10,I L a0_11,I L a0_12,I L a0_13,I L a0_14,I L a0_15,I L a0_16,I L a0_17,I L a0_18,I L a0_19,I L a0_20]) (t:=27) ?_;intro Ma hg w4 hbox hb;have n_:=an_ (below_step (pB_ HB.out) hb)<|an_ (hbox)<|an_ (bg_ hg (pB_ HB.out):w.heap.size≤Ma)<|D (bg_ hg (pB_ HB.out):w.heap.size≤Ma);clear HB;obtain ⟨HB,Ja,Je,Ke⟩:=n_;clear hb hbox hg)|((with_reducible refine gate_dst (N:=2) rfl ?_);refine bx_ (N:=2) (cs:=#[I L 0,I L 0,I L 0,I L 0,I L 0,I L 0,I L 0,I L 0,I L 0,I L 0,I L 0,I L 0,I L 0,I L 0,I L 0,I L 0,I L 0,I L 0,I L 0,I L 0,I L 0]) (t:=39) ?_;intro Xa hg w5 hbox hb;have n_:=an_ (blk_below (pk_ Ja.out) hb)<|an_ (below_step (pB_ HB.out) hb)<|an_ (hbox)<|an_ (bg_ hg (pB_ HB.out):w.heap.size≤Xa)<|an_ (bg_ hg (pB_ HB.out):w.heap.size≤Xa)<|an_ (nl_ hg (pk_ Ja.out):Ma≠Xa)<|D (by rw [hg];exact Nat.ne_of_gt (blk_lt (pk_ Ja.out)):Xa≠Ma);clear Ja HB;obtain ⟨Ja,HB,Ua,Me,Oe,Md,Od⟩:=n_;clear hb hbox hg)|((with_reducible refine gate_dst (N:=3) rfl ?_);refine bx_ (N:=3) (cs:=#[I L 0,I L 0,I L 0,I L 0,I L 0,I L 0,I L 0,I L 0,I L 0,I L 0,I L 0,I L 0,I L 0,I L 0,I L 0,I L 0,I L 0,I L 0,I L 0,I L 0,I L 0]) (t:=39) ?_;intro Oa hg w6 hbox hb;have n_:=an_ (blk_below (pk_ Ja.out) hb)<|an_ (blk_below (pk_ Ua.out) hb)<|an_ (below_step (pB_ HB.out) hb)<|an_ (hbox)<|an_ (bg_ hg (pB_ HB.out):w.heap.size≤Oa)<|an_ (bg_ hg (pB_ HB.out):w.heap.size≤Oa)<|an_ (nl_ hg (pk_ Ja.out):Ma≠Oa)<|an_ (ng_ hg (pk_ Ja.out):Oa≠Ma)<|an_ (nl_ hg (pk_ Ua.out):Xa≠Oa)<|D (by rw [hg];exact Nat.ne_of_gt (blk_lt (pk_ Ua.out)):Oa≠Xa);clear Ja Ua HB;obtain ⟨Ja,Ua,HB,Ka,Ue,Xe,Kd,Ud,Ub,Xd⟩:=n_;clear hb hbox hg;(try have:=Md.out);(try have:=Od.out);(try have:=Kd.out);(try have:=Ud.out);(try have:=Xd.out);(try have:=Ub.out))|((with_reducible refine gate_callee (f:=30) rfl ?_);refine goesL_ (some 9) rfl rfl Try.func30 (by kernel_rfl) rfl #[.agg #[I L a0_1,I L a0_2,I L a0_3,I L a0_4,I L a0_5,I L a0_6]] rfl Z6 ?_;(with_reducible refine (laws_toPrefix.calls a0_1 a0_2 a0_3 a0_4 a0_5 a0_6 Jb Kb Mb Ob Xb Jc _ A2.out).mono ?_);rintro e w12 ⟨rfl,hb⟩;refine ⟨_,rfl,?_⟩;have n_:=an_ (blk_below (g:=Ma) (o:=.cells #[I L a0_0,I L a0_1,I L a0_2,I L a0_3,I L a0_4,I L a0_5,I L a0_6,I L a0_7,I L a0_8,I L a0_9,I L a0_10,I L a0_11,I L a0_12,I L a0_13,I L a0_14,I L a0_15,I L a0_16,I L a0_17,I L a0_18,I L a0_19,I L a0_20] 27 (0,0)) (by exact pP_ Ja.out) hb)<|an_ (blk_below (g:=Xa) (o:=.cells #[I L 0,I L 0,I L 0,I L 0,I L 0,I L 0,I L 0,I L 0,I L 0,I L 0,I L 0,I L 0,I L 0,I L 0,I L 0,I L 0,I L 0,I L 0,I L 0,I L 0,I L 0] 39 (0,0)) Z7 hb)<|an_ (blk_below (g:=Oa) (o:=.cells #[I L a0_0,I L 0,I L 0,I L 0,I L 0,I L 0,I L 0,I L 0,I L 0,I L 0,I L 0,I L 0,I L 0,I L 0,I L 0,I L 0,I L 0,I L 0,I L 0,I L 0,I L 0] 39 (0,0)) (by exact pP_ Ka.out) hb)<|D (below_step (pB_ HB.out) hb);clear Ja Ua Ka HB;obtain ⟨Ja,Ua,Ka,HB⟩:=n_;(try clear hb))|((with_reducible refine gate_callee (f:=30) rfl ?_);refine goesL_ (some 13) rfl rfl Try.func30 (by kernel_rfl) rfl #[.agg #[I L a0_7,I L a0_8,I L a0_9,I L a0_10,I L a0_11,I L a0_12]] rfl Z6 ?_;(with_reducible refine (laws_toPrefix.calls a0_7 a0_8 a0_9 a0_10 a0_11 a0_12 Kc Mc Oc Uc Xc Jd _ A3.out).mono ?_);rintro e w15 ⟨rfl,hb⟩;refine ⟨_,rfl,?_⟩;have n_:=an_ (blk_below (g:=Ma) (o:=.cells #[I L a0_0,I L a0_1,I L a0_2,I L a0_3,I L a0_4,I L a0_5,I L a0_6,I L a0_7,I L a0_8,I L a0_9,I L a0_10,I L a0_11,I L a0_12,I L a0_13,I L a0_14,I L a0_15,I L a0_16,I L a0_17,I L a0_18,I L a0_19,I L a0_20] 27 (0,0)) (by exact pP_ Ja.out) hb)<|an_ (blk_below (g:=Xa) (o:=.cells #[I L 0,I L 0,I L 0,I L 0,I L 0,I L 0,I L 0,I L 0,I L 0,I L 0,I L 0,I L 0,I L 0,I L 0,I L 0,I L 0,I L 0,I L 0,I L 0,I L 0,I L 0] 39 (0,0)) Z4 hb)<|an_ (blk_below (g:=Oa) (o:=.cells #[I L a0_0,I L Jb,I L Kb,I L Mb,I L Ob,I L Xb,I L Jc,I L 0,I L 0,I L 0,I L 0,I L 0,I L 0,I L 0,I L 0,I L 0,I L 0,I L 0,I L 0,I L 0,I L 0] 39 (0,0)) (by exact pP_ Ka.out) hb)<|D (below_step (pB_ HB.out) hb);clear Ja Ua Ka HB;obtain ⟨Ja,Ua,Ka,HB⟩:=n_;(try clear hb)))
 refine bodyPost_ret (results_cell_row rfl _ _ Xa 39 #[I L a0_0,I L Jb,I L Kb,I L Mb,I L Ob,I L Xb,I L Jc,I L Kc,I L Mc,I L Oc,I L Uc,I L Xc,I L Jd,I L a0_13,I L a0_14,I L a0_15,I L a0_16,I L a0_17,I L a0_18,I L a0_19,I L a0_20] (0,0) _ rfl (by exact pP_ Ua.out) Try.underlying39 rfl (by kernel_rfl)) rfl ?_
 exact ⟨er_, pB_ HB.out⟩

/-! ### laws_toLimits: function 16 -/
def laws_toLimits.f (a0_0 a0_1 a0_2 a0_3 : Int) (a0_4 : Bool) : Option (Int × Int × Int × Int × Bool) := some (a0_0, a0_1, a0_2, a0_3, a0_4)
set_option maxHeartbeats 8000000 in
set_option maxRecDepth 100000 in
theorem laws_toLimits.calls (a0_0 a0_1 a0_2 a0_3 : Int) (a0_4 : Bool) (r1 r2 r3 r4 : Int) (r5 : Bool) (w : World) (h : laws_toLimits.f a0_0 a0_1 a0_2 a0_3 a0_4 = some (r1, r2, r3, r4, r5)) :
  Calls Try.prog 16 #[.agg #[I L a0_0,I L a0_1,I L a0_2,I L a0_3,.bool a0_4]] w fun e w'=>e=.returned (.agg #[I L r1,I L r2,I L r3,I L r4,.bool r5])∧Below w.heap.size w w':=by
 have hu29 := Try.underlying29
 have hu40 := Try.underlying40
 have HB := D (Below.refl w.heap.size w)
 have H : (some (a0_0, a0_1, a0_2, a0_3, a0_4)) = some (r1, r2, r3, r4, r5) := h
 clear h
 simp only [Option.some.injEq, Prod.mk.injEq] at H
 obtain ⟨rfl, rfl, rfl, rfl, rfl⟩ := H
 go_enter Try.func16, Try.ntmps16
 go_wp2_with (first|((with_reducible refine gate_dst (N:=1) rfl ?_);refine bx_ (N:=1) (cs:=#[I L a0_0,I L a0_1,I L a0_2,I L a0_3,.bool a0_4]) (t:=29) ?_;intro gb254 hg w2 hbox hb;have n_:=an_ (below_step (pB_ HB.out) hb)<|an_ (hbox)<|an_ (bg_ hg (pB_ HB.out):w.heap.size≤gb254)<|D (bg_ hg (pB_ HB.out):w.heap.size≤gb254);clear HB;obtain ⟨HB,BK254,GW254,GE254⟩:=n_;clear hb hbox hg)|((with_reducible refine gate_dst (N:=2) rfl ?_);refine bx_ (N:=2) (cs:=#[I L 0,I L 0,I L 0,I L 0,.bool false]) (t:=40) ?_;intro gb255 hg w3 hbox hb;have n_:=an_ (blk_below (pk_ BK254.out) hb)<|an_ (below_step (pB_ HB.out) hb)<|an_ (hbox)<|an_ (bg_ hg (pB_ HB.out):w.heap.size≤gb255)<|an_ (bg_ hg (pB_ HB.out):w.heap.size≤gb255)<|an_ (nl_ hg (pk_ BK254.out):gb254≠gb255)<|D (by rw [hg];exact Nat.ne_of_gt (blk_lt (pk_ BK254.out)):gb255≠gb254);clear BK254 HB;obtain ⟨BK254,HB,BK255,GW255,GE255,NB254_255,NB255_254⟩:=n_;clear hb hbox hg)|((with_reducible refine gate_dst (N:=3) rfl ?_);refine bx_ (N:=3) (cs:=#[I L 0,I L 0,I L 0,I L 0,.bool false]) (t:=40) ?_;intro gb256 hg w4 hbox hb;have n_:=an_ (blk_below (pk_ BK254.out) hb)<|an_ (blk_below (pk_ BK255.out) hb)<|an_ (below_step (pB_ HB.out) hb)<|an_ (hbox)<|an_ (bg_ hg (pB_ HB.out):w.heap.size≤gb256)<|an_ (bg_ hg (pB_ HB.out):w.heap.size≤gb256)<|an_ (nl_ hg (pk_ BK254.out):gb254≠gb256)<|an_ (ng_ hg (pk_ BK254.out):gb256≠gb254)<|an_ (nl_ hg (pk_ BK255.out):gb255≠gb256)<|D (by rw [hg];exact Nat.ne_of_gt (blk_lt (pk_ BK255.out)):gb256≠gb255);clear BK254 BK255 HB;obtain ⟨BK254,BK255,HB,BK256,GW256,GE256,NB254_256,NB256_254,NB255_256,NB256_255⟩:=n_;clear hb hbox hg;(try have:=NB254_255.out);(try have:=NB255_254.out);(try have:=NB254_256.out);(try have:=NB256_254.out);have hcz7_0:=cells5 BK254.out;(try have:=NB256_255.out);(try have:=NB255_256.out);have hcz9_0:=cells5 BK256.out;have hcz10_0:=cells5 BK255.out))
 refine bodyPost_ret (results_cell_row rfl _ _ gb255 40 #[I L a0_0,I L a0_1,I L a0_2,I L a0_3,.bool a0_4] (0,0) _ rfl (by exact pP_ BK255.out) Try.underlying40 rfl (by kernel_rfl)) rfl ?_
 exact ⟨er_, pB_ HB.out⟩

/-! ### laws_toModule: function 31 -/
def laws_toModule.f (a0_0 a0_1 a0_2 a0_3 a0_4 a0_5 a0_6 a0_7 a0_8 a0_9 a0_10 a0_11 a0_12 a0_13 a0_14 a0_15 a0_16 : Int) : Option (Int × Int × Int × Int × Int × Int × Int × Int × Int × Int × Int × Int × Int × Int × Int × Int × Int) := (laws_toPrefix.f a0_1 a0_2 a0_3 a0_4 a0_5 a0_6).bind fun bt260 => ((laws_toPrefix.f a0_7 a0_8 a0_9 a0_10 a0_11 a0_12).bind fun bt266 => (some (a0_0, bt260.1, bt260.2.1, bt260.2.2.1, bt260.2.2.2.1, bt260.2.2.2.2.1, bt260.2.2.2.2.2, bt266.1, bt266.2.1, bt266.2.2.1, bt266.2.2.2.1, bt266.2.2.2.2.1, bt266.2.2.2.2.2, a0_13, a0_14, a0_15, a0_16)))
set_option maxHeartbeats 8000000 in
set_option maxRecDepth 100000 in
theorem laws_toModule.calls (a0_0 a0_1 a0_2 a0_3 a0_4 a0_5 a0_6 a0_7 a0_8 a0_9 a0_10 a0_11 a0_12 a0_13 a0_14 a0_15 a0_16 r1 r2 r3 r4 r5 r6 r7 r8 r9 r10 r11 r12 r13 r14 r15 r16 r17 : Int) (w : World) (h : laws_toModule.f a0_0 a0_1 a0_2 a0_3 a0_4 a0_5 a0_6 a0_7 a0_8 a0_9 a0_10 a0_11 a0_12 a0_13 a0_14 a0_15 a0_16 = some (r1, r2, r3, r4, r5, r6, r7, r8, r9, r10, r11, r12, r13, r14, r15, r16, r17)) :
  Calls Try.prog 31 #[.agg #[I L a0_0,I L a0_1,I L a0_2,I L a0_3,I L a0_4,I L a0_5,I L a0_6,I L a0_7,I L a0_8,I L a0_9,I L a0_10,I L a0_11,I L a0_12,I L a0_13,I L a0_14,I L a0_15,I L a0_16]] w fun e w'=>e=.returned (.agg #[I L r1,I L r2,I L r3,I L r4,I L r5,I L r6,I L r7,I L r8,I L r9,I L r10,I L r11,I L r12,I L r13,I L r14,I L r15,I L r16,I L r17])∧Below w.heap.size w w':=by
 have hu69 := Try.underlying69
 have hu65 := Try.underlying65
 have hu25 := Try.underlying25
 have hu37 := Try.underlying37
 have HB := D (Below.refl w.heap.size w)
 have H:((laws_toPrefix.f a0_1 a0_2 a0_3 a0_4 a0_5 a0_6).bind fun bt260=>((laws_toPrefix.f a0_7 a0_8 a0_9 a0_10 a0_11 a0_12).bind fun bt266=>(some (a0_0,bt260.1,bt260.2.1,bt260.2.2.1,bt260.2.2.2.1,bt260.2.2.2.2.1,bt260.2.2.2.2.2,bt266.1,bt266.2.1,bt266.2.2.1,bt266.2.2.2.1,bt266.2.2.2.2.1,bt266.2.2.2.2.2,a0_13,a0_14,a0_15,a0_16))))=some (r1,r2,r3,r4,r5,r6,r7,r8,r9,r10,r11,r12,r13,r14,r15,r16,r17):=h
 clear h
 obtain ⟨⟨Jb, Kb, Mb, Ob, Xb, Jc⟩, A20, H⟩ := bs_.mp H
 (try dsimp only at H)
 have A2 := D A20
 clear A20
 obtain ⟨⟨Kc, Mc, Oc, Uc, Jd, Kd⟩, A30, H⟩ := bs_.mp H
 (try dsimp only at H)
 have A3 := D A30
 clear A30
 simp only [Option.some.injEq, Prod.mk.injEq] at H
 obtain ⟨rfl, rfl, rfl, rfl, rfl, rfl, rfl, rfl, rfl, rfl, rfl, rfl, rfl, rfl, rfl, rfl, rfl⟩ := H
 go_enter Try.func31, Try.ntmps31
 go_wp2_with (first|((with_reducible refine gld_ 25 rfl ?_);(first|refine la25o1_ ?_|refine la25o7_ ?_))|((with_reducible refine gst_ 37 rfl ?_);(first|refine sa37o1_ ?_|refine sa37o7_ ?_))|((with_reducible refine gst_ 3 rfl ?_);refine sc3_ ?_)|((with_reducible refine gld_ 3 rfl ?_);refine lc3_ ?_)|((with_reducible refine gst_ 27 rfl ?_);refine sa27_ ?_)|((with_reducible refine gld_ 27 rfl ?_);refine la27_ ?_)|((with_reducible refine gst_ 39 rfl ?_);refine sa39_ ?_)|((with_reducible refine gld_ 39 rfl ?_);refine la39_ ?_)|((with_reducible refine gst_ 65 rfl ?_);refine sa65_ ?_)|((with_reducible refine gld_ 65 rfl ?_);refine la65_ ?_)|((with_reducible refine gst_ 69 rfl ?_);refine sa69_ ?_)|((with_reducible refine gld_ 69 rfl ?_);refine la69_ ?_)|((with_reducible refine gate_dst (N:=1) rfl ?_);refine bx_ (N:=1) (cs:=#[I L a0_0,I L a0_1,I L a0_2,I L a0_3,I L a0_4,I L a0_5,I L a0_6,I L a0_7,I L a0_8,I L a0_9,I L a0_10,I L a0_11,I L a0_12,I L a0_13,I L a0_14,I L a0_15,I L a0_16]) (t:=69) ?_;intro Ma hg w4 hbox hb;have n_:=an_ (below_step (pB_ HB.out) hb)<|an_ (hbox)<|an_ (bg_ hg (pB_ HB.out):w.heap.size≤Ma)<|D (bg_ hg (pB_ HB.out):w.heap.size≤Ma);clear HB;obtain ⟨HB,Ja,Je,Ke⟩:=n_;clear hb hbox hg)|((with_reducible refine gate_dst (N:=2) rfl ?_);refine bx_ (N:=2) (cs:=#[I L 0,I L 0,I L 0,I L 0,I L 0,I L 0,I L 0,I L 0,I L 0,I L 0,I L 0,I L 0,I L 0,I L 0,I L 0,I L 0,I L 0]) (t:=65) ?_;intro Xa hg w5 hbox hb;have n_:=an_ (blk_below (pk_ Ja.out) hb)<|an_ (below_step (pB_ HB.out) hb)<|an_ (hbox)<|an_ (bg_ hg (pB_ HB.out):w.heap.size≤Xa)<|an_ (bg_ hg (pB_ HB.out):w.heap.size≤Xa)<|an_ (nl_ hg (pk_ Ja.out):Ma≠Xa)<|D (by rw [hg];exact Nat.ne_of_gt (blk_lt (pk_ Ja.out)):Xa≠Ma);clear Ja HB;obtain ⟨Ja,HB,Ua,Me,Oe,Md,Od⟩:=n_;clear hb hbox hg)|((with_reducible refine gate_dst (N:=3) rfl ?_);refine bx_ (N:=3) (cs:=#[I L 0,I L 0,I L 0,I L 0,I L 0,I L 0,I L 0,I L 0,I L 0,I L 0,I L 0,I L 0,I L 0,I L 0,I L 0,I L 0,I L 0]) (t:=65) ?_;intro Oa hg w6 hbox hb;have n_:=an_ (blk_below (pk_ Ja.out) hb)<|an_ (blk_below (pk_ Ua.out) hb)<|an_ (below_step (pB_ HB.out) hb)<|an_ (hbox)<|an_ (bg_ hg (pB_ HB.out):w.heap.size≤Oa)<|an_ (bg_ hg (pB_ HB.out):w.heap.size≤Oa)<|an_ (nl_ hg (pk_ Ja.out):Ma≠Oa)<|an_ (ng_ hg (pk_ Ja.out):Oa≠Ma)<|an_ (nl_ hg (pk_ Ua.out):Xa≠Oa)<|D (by rw [hg];exact Nat.ne_of_gt (blk_lt (pk_ Ua.out)):Oa≠Xa);clear Ja Ua HB;obtain ⟨Ja,Ua,HB,Ka,Ue,Xe,Xc,Ud,Ub,Xd⟩:=n_;clear hb hbox hg;(try have:=Md.out);(try have:=Od.out);(try have:=Xc.out);(try have:=Ud.out);(try have:=Xd.out);(try have:=Ub.out))|((with_reducible refine gate_callee (f:=30) rfl ?_);refine goesL_ (some 9) rfl rfl Try.func30 (by kernel_rfl) rfl #[.agg #[I L a0_1,I L a0_2,I L a0_3,I L a0_4,I L a0_5,I L a0_6]] rfl Z6 ?_;(with_reducible refine (laws_toPrefix.calls a0_1 a0_2 a0_3 a0_4 a0_5 a0_6 Jb Kb Mb Ob Xb Jc _ A2.out).mono ?_);rintro e w12 ⟨rfl,hb⟩;refine ⟨_,rfl,?_⟩;have n_:=an_ (blk_below (g:=Ma) (o:=.cells #[I L a0_0,I L a0_1,I L a0_2,I L a0_3,I L a0_4,I L a0_5,I L a0_6,I L a0_7,I L a0_8,I L a0_9,I L a0_10,I L a0_11,I L a0_12,I L a0_13,I L a0_14,I L a0_15,I L a0_16] 69 (0,0)) (by exact pP_ Ja.out) hb)<|an_ (blk_below (g:=Xa) (o:=.cells #[I L 0,I L 0,I L 0,I L 0,I L 0,I L 0,I L 0,I L 0,I L 0,I L 0,I L 0,I L 0,I L 0,I L 0,I L 0,I L 0,I L 0] 65 (0,0)) Z7 hb)<|an_ (blk_below (g:=Oa) (o:=.cells #[I L a0_0,I L 0,I L 0,I L 0,I L 0,I L 0,I L 0,I L 0,I L 0,I L 0,I L 0,I L 0,I L 0,I L 0,I L 0,I L 0,I L 0] 65 (0,0)) (by exact pP_ Ka.out) hb)<|D (below_step (pB_ HB.out) hb);clear Ja Ua Ka HB;obtain ⟨Ja,Ua,Ka,HB⟩:=n_;(try clear hb))|((with_reducible refine gate_callee (f:=30) rfl ?_);refine goesL_ (some 13) rfl rfl Try.func30 (by kernel_rfl) rfl #[.agg #[I L a0_7,I L a0_8,I L a0_9,I L a0_10,I L a0_11,I L a0_12]] rfl Z6 ?_;(with_reducible refine (laws_toPrefix.calls a0_7 a0_8 a0_9 a0_10 a0_11 a0_12 Kc Mc Oc Uc Jd Kd _ A3.out).mono ?_);rintro e w15 ⟨rfl,hb⟩;refine ⟨_,rfl,?_⟩;have n_:=an_ (blk_below (g:=Ma) (o:=.cells #[I L a0_0,I L a0_1,I L a0_2,I L a0_3,I L a0_4,I L a0_5,I L a0_6,I L a0_7,I L a0_8,I L a0_9,I L a0_10,I L a0_11,I L a0_12,I L a0_13,I L a0_14,I L a0_15,I L a0_16] 69 (0,0)) (by exact pP_ Ja.out) hb)<|an_ (blk_below (g:=Xa) (o:=.cells #[I L 0,I L 0,I L 0,I L 0,I L 0,I L 0,I L 0,I L 0,I L 0,I L 0,I L 0,I L 0,I L 0,I L 0,I L 0,I L 0,I L 0] 65 (0,0)) Z4 hb)<|an_ (blk_below (g:=Oa) (o:=.cells #[I L a0_0,I L Jb,I L Kb,I L Mb,I L Ob,I L Xb,I L Jc,I L 0,I L 0,I L 0,I L 0,I L 0,I L 0,I L 0,I L 0,I L 0,I L 0] 65 (0,0)) (by exact pP_ Ka.out) hb)<|D (below_step (pB_ HB.out) hb);clear Ja Ua Ka HB;obtain ⟨Ja,Ua,Ka,HB⟩:=n_;(try clear hb)))
 refine bodyPost_ret (results_cell_row rfl _ _ Xa 65 #[I L a0_0,I L Jb,I L Kb,I L Mb,I L Ob,I L Xb,I L Jc,I L Kc,I L Mc,I L Oc,I L Uc,I L Jd,I L Kd,I L a0_13,I L a0_14,I L a0_15,I L a0_16] (0,0) _ rfl (by exact pP_ Ua.out) Try.underlying65 rfl (by kernel_rfl)) rfl ?_
 exact ⟨er_, pB_ HB.out⟩

/-! ### laws_toModuleS: function 17 -/
def laws_toModuleS.l0 : Nat → List (S69) → List (S65) → Int → Option ((List (S65)))
 | 0, _, _, _ => none
 | k + 1,x0,x3,x4=>if x4 < (x0.length:Int) then (if 0≤x4 then ((laws_toModule.f ((rd_T69 x0 x4).f0) ((rd_T69 x0 x4).f1.f0.f0) ((rd_T69 x0 x4).f1.f0.f1) ((rd_T69 x0 x4).f1.f0.f2) ((rd_T69 x0 x4).f1.f0.f3) ((rd_T69 x0 x4).f1.f0.f4) ((rd_T69 x0 x4).f1.f1) ((rd_T69 x0 x4).f2.f0.f0) ((rd_T69 x0 x4).f2.f0.f1) ((rd_T69 x0 x4).f2.f0.f2) ((rd_T69 x0 x4).f2.f0.f3) ((rd_T69 x0 x4).f2.f0.f4) ((rd_T69 x0 x4).f2.f1) ((rd_T69 x0 x4).f3) ((rd_T69 x0 x4).f4) ((rd_T69 x0 x4).f5) ((rd_T69 x0 x4).f6)).bind fun bt276=>(if x4 < (x3.length:Int) then (laws_toModuleS.l0 k x0 (x3.set (x4:Int).toNat (⟨bt276.1,(⟨(⟨bt276.2.1,bt276.2.2.1,bt276.2.2.2.1,bt276.2.2.2.2.1,bt276.2.2.2.2.2.1⟩:S35),bt276.2.2.2.2.2.2.1⟩:S37),(⟨(⟨bt276.2.2.2.2.2.2.2.1,bt276.2.2.2.2.2.2.2.2.1,bt276.2.2.2.2.2.2.2.2.2.1,bt276.2.2.2.2.2.2.2.2.2.2.1,bt276.2.2.2.2.2.2.2.2.2.2.2.1⟩:S35),bt276.2.2.2.2.2.2.2.2.2.2.2.2.1⟩:S37),bt276.2.2.2.2.2.2.2.2.2.2.2.2.2.1,bt276.2.2.2.2.2.2.2.2.2.2.2.2.2.2.1,bt276.2.2.2.2.2.2.2.2.2.2.2.2.2.2.2.1,bt276.2.2.2.2.2.2.2.2.2.2.2.2.2.2.2.2⟩:S65)) (wrap64 (x4 + 1))) else (none))) else (none)) else (some x3)
def laws_toModuleS.f (k : Nat) (l0 : List (S69)) : Option ((List (S65))) := if 0 ≤ (l0.length : Int) then (if ((l0.length : Int) : Int).toNat ≤ 2069668946401 then (laws_toModuleS.l0 k l0 (List.replicate ((l0.length : Int) : Int).toNat z65) 0) else (none)) else (none)
set_option maxHeartbeats 8000000 in
set_option maxRecDepth 100000 in
theorem laws_toModuleS.calls (k : Nat) (A0 : Option Addr) (c0 : Nat) (l0 : List (S69)) (r : List (S65)) (w : World) (hr0 : Kd.C k69 w A0 l0.length l0) (hc0 : l0.length ≤ c0) (h : laws_toModuleS.f k l0 = some r) :
  Calls Try.prog 17 #[Y A0 l0.length c0] w fun e w' => ∃ v0_ : Value, e = .returned (v0_) ∧ Kd.R k65 65 w' w.heap.size (fun _ => True) v0_ r ∧ Below w.heap.size w w' := by
 have hu69 := Try.underlying69
 have hu65 := Try.underlying65
 have HR0 := D hr0
 have HC0 := D hc0
 clear hr0 hc0
 have HB := D (Below.refl w.heap.size w)
 have H:(if 0≤(l0.length:Int) then (if ((l0.length:Int):Int).toNat≤2069668946401 then (laws_toModuleS.l0 k l0 (List.replicate ((l0.length:Int):Int).toNat z65) 0) else (none)) else (none))=some r:=h
 clear h
 by_cases c2 : 0 ≤ (l0.length : Int)
 ·rw [if_pos c2] at H
  have c2b0 := eq_true c2; have c2b1 : decide (0 ≤ (l0.length : Int)) = true := decide_eq_true c2; clear c2
  by_cases c3 : ((l0.length : Int) : Int).toNat ≤ 2069668946401
  ·rw [if_pos c3] at H
   have c3b0:=eq_true c3;have c3b1:decide (((l0.length:Int):Int).toNat≤2069668946401)=true:=decide_eq_true c3;clear c3;obtain ⟨y272,hy272⟩:∃ y_:List (S65),y_=(List.replicate ((l0.length:Int):Int).toNat z65):=⟨_,rfl⟩
   replace H:(laws_toModuleS.l0 k l0 y272 0)=some r:=by first|(rw [hy272];with_reducible exact H)|(have H2_:=(Option.bind_some _ _).symm.trans H;rw [hy272];with_reducible exact H2_)|(have H2_:=(Option.bind_some _ _).symm.trans H;with_reducible exact H2_)|with_reducible exact H|(rw [hy272];exact H)|exact H
   have Ny272 := D hy272; clear hy272; have H' := D H; clear H; go_enter Try.func17, Try.ntmps17
   go_wp2_with (first|((with_reducible refine gate_dst (N:=7) rfl ?_);refine Kd.R_make k65 _ 65 rfl (N:=7) rfl 41 _ _ rfl (l0.length:Int) rfl rfl Try.underlying41 (.agg #[(I L 0),(I L 0),(I L 0),(I L 0),(I L 0),(I L 0),(I L 0),(I L 0),(I L 0),(I L 0),(I L 0),(I L 0),(I L 0),(I L 0),(I L 0),(I L 0),(I L 0)]) 136 info65 rfl (by decide) (by omega) z65 (ok:=fun _=>True) (okp:=fun _=>True) (k65_mkM _ _ _ z65 ) (fun _ hk=>hk) trivial (od_ Z10) (Nat.le_trans (Nat.mul_le_mul_right _ (od_ Z10:(l0.length:Int).toNat≤2069668946401)) (by omega)) (Below.refl _ _) (Nat.le_refl _) ?_;intro Od w4 ho5 hb hg_ hnew_;clear hg_ hnew_;(first|rw [← Ny272.out] at ho5|(simp only [Int.reduceToNat] at ho5;rw [← Ny272.out] at ho5));have n_:=an_ (Kd.R_lower ho5 (below_size (pB_ HB.out)))<|D (below_step (pB_ HB.out) hb);clear HB;obtain ⟨Ud,HB⟩:=n_;clear hb ho5))
   go_loopg [4] k (fun kq v4 w'=>∃ (x3_1:List (S65)) (x4_1:Int),v4=I L x4_1∧Aside0 (laws_toModuleS.l0 kq l0 x3_1 x4_1=some r)∧Aside0 (kq≤k)∧Aside0 (Kd.R k65 65 w' w.heap.size (fun _=>True) Od x3_1)∧Aside0 (Below w.heap.size w w'))
   case atStart => exact ⟨(y272), (0), Z11, H', ⟨Nat.le_refl _⟩, ⟨pR_ Ud.out⟩, ⟨pB_ HB.out⟩⟩
   case round =>
    clear H'
    (try clear c1);(try clear c2);(try clear c2b0);(try clear c2b1);(try clear p2);(try clear c3);(try clear c3b0);(try clear c3b1)
    obtain ⟨x3_1, x4_1, rfl, HA, HK1, Ja, HB⟩ := hrel
    cases gk with
    | zero => exact absurd HA.out (by simp [laws_toModuleS.l0])
    | succ k1 =>
     have H := HA.out; clear HA; simp only [laws_toModuleS.l0] at H
     by_cases c6 : x4_1 < (l0.length : Int)
     ·rw [if_pos c6] at H
      have c6b0 : decide (x4_1 < (l0.length : Int)) = true := decide_eq_true c6; clear c6
      by_cases c7 : 0 ≤ x4_1
      ·rw [if_pos c7] at H
       have c7b0:decide (0≤x4_1)=true:=decide_eq_true c7;clear c7;obtain ⟨⟨Ka,Ma,Oa,Ua,Xa,Jb,Kb,Mb,Ob,Ub,Xb,Jc,Kc,Mc,Oc,Uc,Xc⟩,A80,H⟩:=bs_.mp H;(try dsimp only at H);have A8:=D A80;clear A80
       by_cases c9 : x4_1 < (x3_1.length : Int)
       ·rw [if_pos c9] at H
        have c9b0:decide (x4_1 < (x3_1.length:Int))=true:=decide_eq_true c9;clear c9;obtain ⟨y293,hy293⟩:∃ y_:List (S65),y_=(x3_1.set (x4_1:Int).toNat (⟨Ka,(⟨(⟨Ma,Oa,Ua,Xa,Jb⟩:S35),Kb⟩:S37),(⟨(⟨Mb,Ob,Ub,Xb,Jc⟩:S35),Kc⟩:S37),Mc,Oc,Uc,Xc⟩:S65)):=⟨_,rfl⟩
        replace H:(laws_toModuleS.l0 k1 l0 y293 (wrap64 (x4_1 + 1)))=some r:=by first|(rw [hy293];with_reducible exact H)|(have H2_:=(Option.bind_some _ _).symm.trans H;rw [hy293];with_reducible exact H2_)|(have H2_:=(Option.bind_some _ _).symm.trans H;with_reducible exact H2_)|with_reducible exact H|(rw [hy293];exact H)|exact H
        have Ny293:=D hy293;clear hy293;have H':=D H;clear H;have p275:0≤(x4_1:Int):=od_ Z10;have q275:x4_1 < (l0.length:Int):=od_ Z10;obtain ⟨ad275,e275,hx275_0,hx275_1,hx275_2,hx275_3,hx275_4,hx275_5,hx275_6,hx275_7,hx275_8,hx275_9,hx275_10,hx275_11,hx275_12,hx275_13,hx275_14,hx275_15,hx275_16⟩:=at_T69 HR0.out x4_1 p275 q275;cases e275;replace hx275_0:=rc_ HB.out hx275_0;replace hx275_1:=rc_ HB.out hx275_1;replace hx275_2:=rc_ HB.out hx275_2;replace hx275_3:=rc_ HB.out hx275_3;replace hx275_4:=rc_ HB.out hx275_4;replace hx275_5:=rc_ HB.out hx275_5;replace hx275_6:=rc_ HB.out hx275_6;replace hx275_7:=rc_ HB.out hx275_7;replace hx275_8:=rc_ HB.out hx275_8;replace hx275_9:=rc_ HB.out hx275_9;replace hx275_10:=rc_ HB.out hx275_10;replace hx275_11:=rc_ HB.out hx275_11;replace hx275_12:=rc_ HB.out hx275_12;replace hx275_13:=rc_ HB.out hx275_13;replace hx275_14:=rc_ HB.out hx275_14;replace hx275_15:=rc_ HB.out hx275_15;replace hx275_16:=rc_ HB.out hx275_16;replace p275:=eq_true p275;replace q275:=eq_true q275
        go_wp2_with (first|((with_reducible refine gate_callee (f:=31) rfl ?_);refine goesL_ (some 20) rfl rfl Try.func31 (by kernel_rfl) rfl #[.agg #[I L ((rd_T69 l0 x4_1).f0),I L ((rd_T69 l0 x4_1).f1.f0.f0),I L ((rd_T69 l0 x4_1).f1.f0.f1),I L ((rd_T69 l0 x4_1).f1.f0.f2),I L ((rd_T69 l0 x4_1).f1.f0.f3),I L ((rd_T69 l0 x4_1).f1.f0.f4),I L ((rd_T69 l0 x4_1).f1.f1),I L ((rd_T69 l0 x4_1).f2.f0.f0),I L ((rd_T69 l0 x4_1).f2.f0.f1),I L ((rd_T69 l0 x4_1).f2.f0.f2),I L ((rd_T69 l0 x4_1).f2.f0.f3),I L ((rd_T69 l0 x4_1).f2.f0.f4),I L ((rd_T69 l0 x4_1).f2.f1),I L ((rd_T69 l0 x4_1).f3),I L ((rd_T69 l0 x4_1).f4),I L ((rd_T69 l0 x4_1).f5),I L ((rd_T69 l0 x4_1).f6)]] rfl Z6 ?_;(with_reducible refine (laws_toModule.calls ((rd_T69 l0 x4_1).f0) ((rd_T69 l0 x4_1).f1.f0.f0) ((rd_T69 l0 x4_1).f1.f0.f1) ((rd_T69 l0 x4_1).f1.f0.f2) ((rd_T69 l0 x4_1).f1.f0.f3) ((rd_T69 l0 x4_1).f1.f0.f4) ((rd_T69 l0 x4_1).f1.f1) ((rd_T69 l0 x4_1).f2.f0.f0) ((rd_T69 l0 x4_1).f2.f0.f1) ((rd_T69 l0 x4_1).f2.f0.f2) ((rd_T69 l0 x4_1).f2.f0.f3) ((rd_T69 l0 x4_1).f2.f0.f4) ((rd_T69 l0 x4_1).f2.f1) ((rd_T69 l0 x4_1).f3) ((rd_T69 l0 x4_1).f4) ((rd_T69 l0 x4_1).f5) ((rd_T69 l0 x4_1).f6) Ka Ma Oa Ua Xa Jb Kb Mb Ob Ub Xb Jc Kc Mc Oc Uc Xc _ A8.out).mono ?_);rintro e w11 ⟨rfl,hb⟩;refine ⟨_,rfl,?_⟩;have n_:=an_ (Kd.R_below (pR_ Ja.out) hb)<|D (below_step (pB_ HB.out) hb);clear Ja HB;obtain ⟨Ja,HB⟩:=n_;(try clear hb);have p10:0≤(x4_1:Int):=od_ Z10;have q10:(x4_1:Int) < ((x3_1.length:Int):Int):=od_ Z10;obtain ⟨go10,Jd,eo10,Md,gl10,cl10,HG10⟩:=Kd.R_form Ja.out (by omega);(first|cases eo10|(injection eo10 with ea_ en_ ec_;(first|subst ea_|(injection ea_ with ea_;subst ea_));subst ec_;clear en_));have GB10:=D Md;have GG10:=D HG10;clear Md gl10 HG10;obtain ⟨ce10,hcl10,hM10,hcc10,hfr10⟩:=Kd.R_elem Ja.out z65 (x4_1:Int) p10 q10;obtain rfl:=k65_openM hM10;have hx10_0:w11.cell? ⟨go10,(x4_1:Int).toNat * 17,none⟩=some (I L ((rd_T65 x3_1 x4_1).f0)):=hcc10 0 _ rfl;have hx10_1:w11.cell? ⟨go10,(x4_1:Int).toNat * 17 + 1,none⟩=some (I L ((rd_T65 x3_1 x4_1).f1.f0.f0)):=hcc10 1 _ rfl;have hx10_2:w11.cell? ⟨go10,(x4_1:Int).toNat * 17 + 2,none⟩=some (I L ((rd_T65 x3_1 x4_1).f1.f0.f1)):=hcc10 2 _ rfl;have hx10_3:w11.cell? ⟨go10,(x4_1:Int).toNat * 17 + 3,none⟩=some (I L ((rd_T65 x3_1 x4_1).f1.f0.f2)):=hcc10 3 _ rfl;have hx10_4:w11.cell? ⟨go10,(x4_1:Int).toNat * 17 + 4,none⟩=some (I L ((rd_T65 x3_1 x4_1).f1.f0.f3)):=hcc10 4 _ rfl;have hx10_5:w11.cell? ⟨go10,(x4_1:Int).toNat * 17 + 5,none⟩=some (I L ((rd_T65 x3_1 x4_1).f1.f0.f4)):=hcc10 5 _ rfl;have hx10_6:w11.cell? ⟨go10,(x4_1:Int).toNat * 17 + 6,none⟩=some (I L ((rd_T65 x3_1 x4_1).f1.f1)):=hcc10 6 _ rfl;have hx10_7:w11.cell? ⟨go10,(x4_1:Int).toNat * 17 + 7,none⟩=some (I L ((rd_T65 x3_1 x4_1).f2.f0.f0)):=hcc10 7 _ rfl;have hx10_8:w11.cell? ⟨go10,(x4_1:Int).toNat * 17 + 8,none⟩=some (I L ((rd_T65 x3_1 x4_1).f2.f0.f1)):=hcc10 8 _ rfl;have hx10_9:w11.cell? ⟨go10,(x4_1:Int).toNat * 17 + 9,none⟩=some (I L ((rd_T65 x3_1 x4_1).f2.f0.f2)):=hcc10 9 _ rfl;have hx10_10:w11.cell? ⟨go10,(x4_1:Int).toNat * 17 + 10,none⟩=some (I L ((rd_T65 x3_1 x4_1).f2.f0.f3)):=hcc10 10 _ rfl;have hx10_11:w11.cell? ⟨go10,(x4_1:Int).toNat * 17 + 11,none⟩=some (I L ((rd_T65 x3_1 x4_1).f2.f0.f4)):=hcc10 11 _ rfl;have hx10_12:w11.cell? ⟨go10,(x4_1:Int).toNat * 17 + 12,none⟩=some (I L ((rd_T65 x3_1 x4_1).f2.f1)):=hcc10 12 _ rfl;have hx10_13:w11.cell? ⟨go10,(x4_1:Int).toNat * 17 + 13,none⟩=some (I L ((rd_T65 x3_1 x4_1).f3)):=hcc10 13 _ rfl;have hx10_14:w11.cell? ⟨go10,(x4_1:Int).toNat * 17 + 14,none⟩=some (I L ((rd_T65 x3_1 x4_1).f4)):=hcc10 14 _ rfl;have hx10_15:w11.cell? ⟨go10,(x4_1:Int).toNat * 17 + 15,none⟩=some (I L ((rd_T65 x3_1 x4_1).f5)):=hcc10 15 _ rfl;have hx10_16:w11.cell? ⟨go10,(x4_1:Int).toNat * 17 + 16,none⟩=some (I L ((rd_T65 x3_1 x4_1).f6)):=hcc10 16 _ rfl;have hf10_0:w11.frozen? ⟨go10,(x4_1:Int).toNat * 17,none⟩=false:=hfr10 0;have hf10_1:w11.frozen? ⟨go10,(x4_1:Int).toNat * 17 + 1,none⟩=false:=hfr10 1;have hf10_2:w11.frozen? ⟨go10,(x4_1:Int).toNat * 17 + 2,none⟩=false:=hfr10 2;have hf10_3:w11.frozen? ⟨go10,(x4_1:Int).toNat * 17 + 3,none⟩=false:=hfr10 3;have hf10_4:w11.frozen? ⟨go10,(x4_1:Int).toNat * 17 + 4,none⟩=false:=hfr10 4;have hf10_5:w11.frozen? ⟨go10,(x4_1:Int).toNat * 17 + 5,none⟩=false:=hfr10 5;have hf10_6:w11.frozen? ⟨go10,(x4_1:Int).toNat * 17 + 6,none⟩=false:=hfr10 6;have hf10_7:w11.frozen? ⟨go10,(x4_1:Int).toNat * 17 + 7,none⟩=false:=hfr10 7;have hf10_8:w11.frozen? ⟨go10,(x4_1:Int).toNat * 17 + 8,none⟩=false:=hfr10 8;have hf10_9:w11.frozen? ⟨go10,(x4_1:Int).toNat * 17 + 9,none⟩=false:=hfr10 9;have hf10_10:w11.frozen? ⟨go10,(x4_1:Int).toNat * 17 + 10,none⟩=false:=hfr10 10;have hf10_11:w11.frozen? ⟨go10,(x4_1:Int).toNat * 17 + 11,none⟩=false:=hfr10 11;have hf10_12:w11.frozen? ⟨go10,(x4_1:Int).toNat * 17 + 12,none⟩=false:=hfr10 12;have hf10_13:w11.frozen? ⟨go10,(x4_1:Int).toNat * 17 + 13,none⟩=false:=hfr10 13;have hf10_14:w11.frozen? ⟨go10,(x4_1:Int).toNat * 17 + 14,none⟩=false:=hfr10 14;have hf10_15:w11.frozen? ⟨go10,(x4_1:Int).toNat * 17 + 15,none⟩=false:=hfr10 15;have hf10_16:w11.frozen? ⟨go10,(x4_1:Int).toNat * 17 + 16,none⟩=false:=hfr10 16;clear hcl10 hcc10 hfr10 hM10;replace p10:=eq_true p10;replace q10:=eq_true q10;have HX12:=D (show Kd.R k65 65 w11 w.heap.size (fun _=>True) (Y (some ⟨go10,0,none⟩) x3_1.length Jd) x3_1 from (pR_ Ja.out));obtain ⟨ce12,hcl12,hM12,hcc12,hfr12⟩:=Kd.R_elem HX12.out z65 (x4_1:Int) (od_ Z10) (by have h_:(x4_1:Int) < ((x3_1.length:Int):Int):=od_ Z10;first|exact h_|(have e_:=(Kd.R_reads' Ja.out).1;omega)|simpa using h_);obtain rfl:=k65_openM hM12;have HP12:=Kd.R_seg HX12.out (x4_1:Int) (od_ Z10) (by have h_:(x4_1:Int) < ((x3_1.length:Int):Int):=od_ Z10;first|exact h_|(have e_:=(Kd.R_reads' Ja.out).1;omega)|simpa using h_) (seg:=[I L Ka,I L Ma,I L Oa,I L Ua,I L Xa,I L Jb,I L Kb,I L Mb,I L Ob,I L Ub,I L Xb,I L Jc,I L Kc,I L Mc,I L Oc,I L Uc,I L Xc]) (j:=0) hcl12 hcc12 (show 17≤17 from by decide) (x':=(⟨Ka,(⟨(⟨Ma,Oa,Ua,Xa,Jb⟩:S35),Kb⟩:S37),(⟨(⟨Mb,Ob,Ub,Xb,Jc⟩:S35),Kc⟩:S37),Mc,Oc,Uc,Xc⟩:S65)) (k65_mkM _ _ _ (⟨Ka,(⟨(⟨Ma,Oa,Ua,Xa,Jb⟩:S35),Kb⟩:S37),(⟨(⟨Mb,Ob,Ub,Xb,Jc⟩:S35),Kc⟩:S37),Mc,Oc,Uc,Xc⟩:S65) ) (fun _ hk=>hk);have hx12_0:=hcc12 0 _ rfl;(try simp only [show (k65).sz=17 from rfl,Nat.mul_one,Nat.add_zero] at hx12_0);have hf12_0:=hfr12 0;(try simp only [show (k65).sz=17 from rfl,Nat.mul_one,Nat.add_zero] at hf12_0);have hx12_1:=hcc12 1 _ rfl;(try simp only [show (k65).sz=17 from rfl,Nat.mul_one,Nat.add_zero] at hx12_1);have hf12_1:=hfr12 1;(try simp only [show (k65).sz=17 from rfl,Nat.mul_one,Nat.add_zero] at hf12_1);have hx12_2:=hcc12 2 _ rfl;(try simp only [show (k65).sz=17 from rfl,Nat.mul_one,Nat.add_zero] at hx12_2);have hf12_2:=hfr12 2;(try simp only [show (k65).sz=17 from rfl,Nat.mul_one,Nat.add_zero] at hf12_2);have hx12_3:=hcc12 3 _ rfl;(try simp only [show (k65).sz=17 from rfl,Nat.mul_one,Nat.add_zero] at hx12_3);have hf12_3:=hfr12 3;(try simp only [show (k65).sz=17 from rfl,Nat.mul_one,Nat.add_zero] at hf12_3);have hx12_4:=hcc12 4 _ rfl;(try simp only [show (k65).sz=17 from rfl,Nat.mul_one,Nat.add_zero] at hx12_4);have hf12_4:=hfr12 4;(try simp only [show (k65).sz=17 from rfl,Nat.mul_one,Nat.add_zero] at hf12_4);have hx12_5:=hcc12 5 _ rfl;(try simp only [show (k65).sz=17 from rfl,Nat.mul_one,Nat.add_zero] at hx12_5);have hf12_5:=hfr12 5;(try simp only [show (k65).sz=17 from rfl,Nat.mul_one,Nat.add_zero] at hf12_5);have hx12_6:=hcc12 6 _ rfl;(try simp only [show (k65).sz=17 from rfl,Nat.mul_one,Nat.add_zero] at hx12_6);have hf12_6:=hfr12 6;(try simp only [show (k65).sz=17 from rfl,Nat.mul_one,Nat.add_zero] at hf12_6);have hx12_7:=hcc12 7 _ rfl;(try simp only [show (k65).sz=17 from rfl,Nat.mul_one,Nat.add_zero] at hx12_7);have hf12_7:=hfr12 7;(try simp only [show (k65).sz=17 from rfl,Nat.mul_one,Nat.add_zero] at hf12_7);have hx12_8:=hcc12 8 _ rfl;(try simp only [show (k65).sz=17 from rfl,Nat.mul_one,Nat.add_zero] at hx12_8);have hf12_8:=hfr12 8;(try simp only [show (k65).sz=17 from rfl,Nat.mul_one,Nat.add_zero] at hf12_8);have hx12_9:=hcc12 9 _ rfl;(try simp only [show (k65).sz=17 from rfl,Nat.mul_one,Nat.add_zero] at hx12_9);have hf12_9:=hfr12 9;(try simp only [show (k65).sz=17 from rfl,Nat.mul_one,Nat.add_zero] at hf12_9);have hx12_10:=hcc12 10 _ rfl;(try simp only [show (k65).sz=17 from rfl,Nat.mul_one,Nat.add_zero] at hx12_10);have hf12_10:=hfr12 10;(try simp only [show (k65).sz=17 from rfl,Nat.mul_one,Nat.add_zero] at hf12_10);have hx12_11:=hcc12 11 _ rfl;(try simp only [show (k65).sz=17 from rfl,Nat.mul_one,Nat.add_zero] at hx12_11);have hf12_11:=hfr12 11;(try simp only [show (k65).sz=17 from rfl,Nat.mul_one,Nat.add_zero] at hf12_11);have hx12_12:=hcc12 12 _ rfl;(try simp only [show (k65).sz=17 from rfl,Nat.mul_one,Nat.add_zero] at hx12_12);have hf12_12:=hfr12 12;(try simp only [show (k65).sz=17 from rfl,Nat.mul_one,Nat.add_zero] at hf12_12);have hx12_13:=hcc12 13 _ rfl;(try simp only [show (k65).sz=17 from rfl,Nat.mul_one,Nat.add_zero] at hx12_13);have hf12_13:=hfr12 13;(try simp only [show (k65).sz=17 from rfl,Nat.mul_one,Nat.add_zero] at hf12_13);have hx12_14:=hcc12 14 _ rfl;(try simp only [show (k65).sz=17 from rfl,Nat.mul_one,Nat.add_zero] at hx12_14);have hf12_14:=hfr12 14;(try simp only [show (k65).sz=17 from rfl,Nat.mul_one,Nat.add_zero] at hf12_14);have hx12_15:=hcc12 15 _ rfl;(try simp only [show (k65).sz=17 from rfl,Nat.mul_one,Nat.add_zero] at hx12_15);have hf12_15:=hfr12 15;(try simp only [show (k65).sz=17 from rfl,Nat.mul_one,Nat.add_zero] at hf12_15);have hx12_16:=hcc12 16 _ rfl;(try simp only [show (k65).sz=17 from rfl,Nat.mul_one,Nat.add_zero] at hx12_16);have hf12_16:=hfr12 16;(try simp only [show (k65).sz=17 from rfl,Nat.mul_one,Nat.add_zero] at hf12_16);clear hcl12 hcc12 hfr12 hM12)|((with_reducible refine gate_store (t:=65) (p:=21) rfl ?_);refine store_event (t:=65) (p:=21) (v:=?vo_w13) (w1:=(((((((((((((((((w11.setCell ⟨go10,(x4_1:Int).toNat * 17,none⟩ (I L Ka)).setCell ⟨go10,(x4_1:Int).toNat * 17 + 1,none⟩ (I L Ma)).setCell ⟨go10,(x4_1:Int).toNat * 17 + 2,none⟩ (I L Oa)).setCell ⟨go10,(x4_1:Int).toNat * 17 + 3,none⟩ (I L Ua)).setCell ⟨go10,(x4_1:Int).toNat * 17 + 4,none⟩ (I L Xa)).setCell ⟨go10,(x4_1:Int).toNat * 17 + 5,none⟩ (I L Jb)).setCell ⟨go10,(x4_1:Int).toNat * 17 + 6,none⟩ (I L Kb)).setCell ⟨go10,(x4_1:Int).toNat * 17 + 7,none⟩ (I L Mb)).setCell ⟨go10,(x4_1:Int).toNat * 17 + 8,none⟩ (I L Ob)).setCell ⟨go10,(x4_1:Int).toNat * 17 + 9,none⟩ (I L Ub)).setCell ⟨go10,(x4_1:Int).toNat * 17 + 10,none⟩ (I L Xb)).setCell ⟨go10,(x4_1:Int).toNat * 17 + 11,none⟩ (I L Jc)).setCell ⟨go10,(x4_1:Int).toNat * 17 + 12,none⟩ (I L Kc)).setCell ⟨go10,(x4_1:Int).toNat * 17 + 13,none⟩ (I L Mc)).setCell ⟨go10,(x4_1:Int).toNat * 17 + 14,none⟩ (I L Oc)).setCell ⟨go10,(x4_1:Int).toNat * 17 + 15,none⟩ (I L Uc)).setCell ⟨go10,(x4_1:Int).toNat * 17 + 16,none⟩ (I L Xc))) ?hg ?ho ?hn ?hr ?_;(case ho=>rfl);(case hg=>rfl);(case hn=>rfl);(case hr=>first|(go_simp;done)|(go_simp;rfl));intro w13 hw;have hg:w11.grownBy w13 (some go10):=(by rw [hw];exact HP12.2);have hp_:Kd.R k65 65 w13 w.heap.size (fun _=>True) (Y (some ⟨go10,0,none⟩) x3_1.length Jd) y293:=(by rw [hw,Ny293.out];exact HP12.1);clear HP12;have n_:=an_ (hp_)<|D (by rw [hw];exact below_set (below_set (below_set (below_set (below_set (below_set (below_set (below_set (below_set (below_set (below_set (below_set (below_set (below_set (below_set (below_set (below_set (HB.out) GB10.out) GB10.out) GB10.out) GB10.out) GB10.out) GB10.out) GB10.out) GB10.out) GB10.out) GB10.out) GB10.out) GB10.out) GB10.out) GB10.out) GB10.out) GB10.out) GB10.out:Below w.heap.size w w13);clear Ja HB;obtain ⟨Ja,HB⟩:=n_;clear hg hw hp_))
        go_roundg k1
        case measure => have := HK1.out; omega
        case rel => exact ⟨(y293), (wrap64 (x4_1 + 1)), Z11, H', ⟨by have := HK1.out; omega⟩, ⟨pR_ Ja.out⟩, ⟨pB_ HB.out⟩⟩
       ·rw [if_neg c9] at H
        exact absurd H (by simp)
      ·rw [if_neg c7] at H
       exact absurd H (by simp)
     ·rw [if_neg c6] at H
      have c6b0 : decide (x4_1 < (l0.length : Int)) = false := decide_eq_false c6; clear c6; obtain rfl := Option.some.inj H
      go_wp2
      go_ret;exact ⟨_,er_,by (with_reducible repeat (first|apply Kd.R_alloc|apply Kd.R_drewN|apply Kd.R_drew));exact Ja.out,pB_ HB.out⟩
  ·rw [if_neg c3] at H
   exact absurd H (by simp)
 ·rw [if_neg c2] at H
  exact absurd H (by simp)

/-! ### laws_toCmd: function 6 -/
def laws_toCmd.f (k : Nat) (a0_0 a0_1 a0_2 a0_3 a0_4 a0_5 a0_6 a0_7 a0_8 a0_9 a0_10 a0_11 a0_12 a0_13 a0_14 a0_15 a0_16 a0_17 a0_18 a0_19 a0_20 a0_21 a0_22 a0_23 a0_24 a0_25 a0_26 a0_27 : Int) (a0_28 : Bool) (l0_29 : List (S69)) : Option (Int × Int × Int × Int × Int × Int × Int × Int × Int × Int × Int × Int × Int × Int × Int × Int × Int × Int × Int × Int × Int × Int × Int × Int × Int × Int × Int × Int × Bool × (List (S65))) := (laws_toRule.f a0_3 a0_4 a0_5 a0_6 a0_7 a0_8 a0_9 a0_10 a0_11 a0_12 a0_13 a0_14 a0_15 a0_16 a0_17 a0_18 a0_19 a0_20 a0_21 a0_22 a0_23).bind fun bt297 => ((laws_toLimits.f a0_24 a0_25 a0_26 a0_27 a0_28).bind fun bt318 => ((laws_toModuleS.f k l0_29).bind fun Xd => (some (a0_0, a0_1, a0_2, bt297.1, bt297.2.1, bt297.2.2.1, bt297.2.2.2.1, bt297.2.2.2.2.1, bt297.2.2.2.2.2.1, bt297.2.2.2.2.2.2.1, bt297.2.2.2.2.2.2.2.1, bt297.2.2.2.2.2.2.2.2.1, bt297.2.2.2.2.2.2.2.2.2.1, bt297.2.2.2.2.2.2.2.2.2.2.1, bt297.2.2.2.2.2.2.2.2.2.2.2.1, bt297.2.2.2.2.2.2.2.2.2.2.2.2.1, bt297.2.2.2.2.2.2.2.2.2.2.2.2.2.1, bt297.2.2.2.2.2.2.2.2.2.2.2.2.2.2.1, bt297.2.2.2.2.2.2.2.2.2.2.2.2.2.2.2.1, bt297.2.2.2.2.2.2.2.2.2.2.2.2.2.2.2.2.1, bt297.2.2.2.2.2.2.2.2.2.2.2.2.2.2.2.2.2.1, bt297.2.2.2.2.2.2.2.2.2.2.2.2.2.2.2.2.2.2.1, bt297.2.2.2.2.2.2.2.2.2.2.2.2.2.2.2.2.2.2.2.1, bt297.2.2.2.2.2.2.2.2.2.2.2.2.2.2.2.2.2.2.2.2, bt318.1, bt318.2.1, bt318.2.2.1, bt318.2.2.2.1, bt318.2.2.2.2, Xd))))
set_option maxHeartbeats 8000000 in
set_option maxRecDepth 100000 in
theorem laws_toCmd.calls (k : Nat) (a0_0 a0_1 a0_2 a0_3 a0_4 a0_5 a0_6 a0_7 a0_8 a0_9 a0_10 a0_11 a0_12 a0_13 a0_14 a0_15 a0_16 a0_17 a0_18 a0_19 a0_20 a0_21 a0_22 a0_23 a0_24 a0_25 a0_26 a0_27 : Int) (a0_28 : Bool) (A0_29 : Option Addr) (c0_29 : Nat) (l0_29 : List (S69)) (r1 r2 r3 r4 r5 r6 r7 r8 r9 r10 r11 r12 r13 r14 r15 r16 r17 r18 r19 r20 r21 r22 r23 r24 r25 r26 r27 r28 : Int) (r29 : Bool) (r30 : List (S65)) (w : World) (hr0_29 : Kd.C k69 w A0_29 l0_29.length l0_29) (hc0_29 : l0_29.length ≤ c0_29) (h : laws_toCmd.f k a0_0 a0_1 a0_2 a0_3 a0_4 a0_5 a0_6 a0_7 a0_8 a0_9 a0_10 a0_11 a0_12 a0_13 a0_14 a0_15 a0_16 a0_17 a0_18 a0_19 a0_20 a0_21 a0_22 a0_23 a0_24 a0_25 a0_26 a0_27 a0_28 l0_29 = some (r1, r2, r3, r4, r5, r6, r7, r8, r9, r10, r11, r12, r13, r14, r15, r16, r17, r18, r19, r20, r21, r22, r23, r24, r25, r26, r27, r28, r29, r30)) :
  Calls Try.prog 6 #[.agg #[I L a0_0,I L a0_1,I L a0_2,I L a0_3,I L a0_4,I L a0_5,I L a0_6,I L a0_7,I L a0_8,I L a0_9,I L a0_10,I L a0_11,I L a0_12,I L a0_13,I L a0_14,I L a0_15,I L a0_16,I L a0_17,I L a0_18,I L a0_19,I L a0_20,I L a0_21,I L a0_22,I L a0_23,I L a0_24,I L a0_25,I L a0_26,I L a0_27,.bool a0_28,Y A0_29 l0_29.length c0_29]] w fun e w'=>∃ v29_:Value,e=.returned (.agg #[I L r1,I L r2,I L r3,I L r4,I L r5,I L r6,I L r7,I L r8,I L r9,I L r10,I L r11,I L r12,I L r13,I L r14,I L r15,I L r16,I L r17,I L r18,I L r19,I L r20,I L r21,I L r22,I L r23,I L r24,I L r25,I L r26,I L r27,I L r28,.bool r29,v29_])∧Kd.R k65 65 w' w.heap.size (fun _=>True) v29_ r30∧Below w.heap.size w w':=by
 have hu32 := Try.underlying32
 have hu43 := Try.underlying43
 have hu27 := Try.underlying27
 have hu39 := Try.underlying39
 have hu29 := Try.underlying29
 have hu40 := Try.underlying40
 have HR0_29 := D hr0_29
 have HC0_29 := D hc0_29
 clear hr0_29 hc0_29
 have HB := D (Below.refl w.heap.size w)
 have H:((laws_toRule.f a0_3 a0_4 a0_5 a0_6 a0_7 a0_8 a0_9 a0_10 a0_11 a0_12 a0_13 a0_14 a0_15 a0_16 a0_17 a0_18 a0_19 a0_20 a0_21 a0_22 a0_23).bind fun bt297=>((laws_toLimits.f a0_24 a0_25 a0_26 a0_27 a0_28).bind fun bt318=>((laws_toModuleS.f k l0_29).bind fun Uf=>(some (a0_0,a0_1,a0_2,bt297.1,bt297.2.1,bt297.2.2.1,bt297.2.2.2.1,bt297.2.2.2.2.1,bt297.2.2.2.2.2.1,bt297.2.2.2.2.2.2.1,bt297.2.2.2.2.2.2.2.1,bt297.2.2.2.2.2.2.2.2.1,bt297.2.2.2.2.2.2.2.2.2.1,bt297.2.2.2.2.2.2.2.2.2.2.1,bt297.2.2.2.2.2.2.2.2.2.2.2.1,bt297.2.2.2.2.2.2.2.2.2.2.2.2.1,bt297.2.2.2.2.2.2.2.2.2.2.2.2.2.1,bt297.2.2.2.2.2.2.2.2.2.2.2.2.2.2.1,bt297.2.2.2.2.2.2.2.2.2.2.2.2.2.2.2.1,bt297.2.2.2.2.2.2.2.2.2.2.2.2.2.2.2.2.1,bt297.2.2.2.2.2.2.2.2.2.2.2.2.2.2.2.2.2.1,bt297.2.2.2.2.2.2.2.2.2.2.2.2.2.2.2.2.2.2.1,bt297.2.2.2.2.2.2.2.2.2.2.2.2.2.2.2.2.2.2.2.1,bt297.2.2.2.2.2.2.2.2.2.2.2.2.2.2.2.2.2.2.2.2,bt318.1,bt318.2.1,bt318.2.2.1,bt318.2.2.2.1,bt318.2.2.2.2,Uf)))))=some (r1,r2,r3,r4,r5,r6,r7,r8,r9,r10,r11,r12,r13,r14,r15,r16,r17,r18,r19,r20,r21,r22,r23,r24,r25,r26,r27,r28,r29,r30):=h
 clear h
 obtain ⟨⟨Xa, Jb, Kb, Mb, Ob, Ub, Xb, Jc, Kc, Mc, Uc, Xc, Jd, Md, Ud, Je, Ke, Me, Oe, Ue, Xe⟩, A20, H⟩ := bs_.mp H
 (try dsimp only at H)
 have A2 := D A20
 clear A20
 obtain ⟨⟨Jf, Kf, Mf, Of, Xf⟩, A30, H⟩ := bs_.mp H
 (try dsimp only at H)
 have A3 := D A30
 clear A30
 obtain ⟨Uf, A40, H⟩ := bs_.mp H
 (try dsimp only at H)
 have A4 := D A40
 clear A40
 simp only [Option.some.injEq, Prod.mk.injEq] at H
 obtain ⟨rfl, rfl, rfl, rfl, rfl, rfl, rfl, rfl, rfl, rfl, rfl, rfl, rfl, rfl, rfl, rfl, rfl, rfl, rfl, rfl, rfl, rfl, rfl, rfl, rfl, rfl, rfl, rfl, rfl, rfl⟩ := H
 go_enter Try.func6, Try.ntmps6
 go_wp2_with (first|((with_reducible refine gld_ 29 rfl ?_);refine la29o24_ ?_)|((with_reducible refine gst_ 40 rfl ?_);refine sa40o24_ ?_)|((with_reducible refine gst_ 3 rfl ?_);refine sc3_ ?_)|((with_reducible refine gld_ 3 rfl ?_);refine lc3_ ?_)|((with_reducible refine gld_ 30 rfl ?_);refine lc30_ ?_)|((with_reducible refine gst_ 41 rfl ?_);refine sc41_ ?_)|((with_reducible refine gst_ 27 rfl ?_);refine sa27_ ?_)|((with_reducible refine gld_ 27 rfl ?_);refine la27_ ?_)|((with_reducible refine gst_ 32 rfl ?_);refine sa32_ ?_)|((with_reducible refine gld_ 32 rfl ?_);refine la32_ ?_)|((with_reducible refine gst_ 39 rfl ?_);refine sa39_ ?_)|((with_reducible refine gld_ 39 rfl ?_);refine la39_ ?_)|((with_reducible refine gst_ 43 rfl ?_);refine sa43_ ?_)|((with_reducible refine gld_ 43 rfl ?_);refine la43_ ?_)|((with_reducible refine gate_dst (N:=1) rfl ?_);refine bx_ (N:=1) (cs:=#[I L a0_0,I L a0_1,I L a0_2,I L a0_3,I L a0_4,I L a0_5,I L a0_6,I L a0_7,I L a0_8,I L a0_9,I L a0_10,I L a0_11,I L a0_12,I L a0_13,I L a0_14,I L a0_15,I L a0_16,I L a0_17,I L a0_18,I L a0_19,I L a0_20,I L a0_21,I L a0_22,I L a0_23,I L a0_24,I L a0_25,I L a0_26,I L a0_27,.bool a0_28,Y A0_29 l0_29.length c0_29]) (t:=32) ?_;intro Oa hg w5 hbox hb;have n_:=an_ (below_step (pB_ HB.out) hb)<|an_ (hbox)<|an_ (bg_ hg (pB_ HB.out):w.heap.size≤Oa)<|D (bg_ hg (pB_ HB.out):w.heap.size≤Oa);clear HB;obtain ⟨HB,Ka,Kh,Mh⟩:=n_;clear hb hbox hg)|((with_reducible refine gate_dst (N:=2) rfl ?_);refine bx_ (N:=2) (cs:=#[I L 0,I L 0,I L 0,I L 0,I L 0,I L 0,I L 0,I L 0,I L 0,I L 0,I L 0,I L 0,I L 0,I L 0,I L 0,I L 0,I L 0,I L 0,I L 0,I L 0,I L 0,I L 0,I L 0,I L 0,I L 0,I L 0,I L 0,I L 0,.bool false,Y none 0 0]) (t:=43) ?_;intro Oc hg w6 hbox hb;have n_:=an_ (blk_below (pk_ Ka.out) hb)<|an_ (below_step (pB_ HB.out) hb)<|an_ (hbox)<|an_ (bg_ hg (pB_ HB.out):w.heap.size≤Oc)<|an_ (bg_ hg (pB_ HB.out):w.heap.size≤Oc)<|an_ (nl_ hg (pk_ Ka.out):Oa≠Oc)<|D (by rw [hg];exact Nat.ne_of_gt (blk_lt (pk_ Ka.out)):Oc≠Oa);clear Ka HB;obtain ⟨Ka,HB,Ua,Oh,Uh,Og,Ug⟩:=n_;clear hb hbox hg)|((with_reducible refine gate_dst (N:=3) rfl ?_);refine bx_ (N:=3) (cs:=#[I L 0,I L 0,I L 0,I L 0,I L 0,I L 0,I L 0,I L 0,I L 0,I L 0,I L 0,I L 0,I L 0,I L 0,I L 0,I L 0,I L 0,I L 0,I L 0,I L 0,I L 0,I L 0,I L 0,I L 0,I L 0,I L 0,I L 0,I L 0,.bool false,Y none 0 0]) (t:=43) ?_;intro Ma hg w7 hbox hb;have n_:=an_ (blk_below (pk_ Ka.out) hb)<|an_ (blk_below (pk_ Ua.out) hb)<|an_ (below_step (pB_ HB.out) hb)<|an_ (hbox)<|an_ (bg_ hg (pB_ HB.out):w.heap.size≤Ma)<|an_ (bg_ hg (pB_ HB.out):w.heap.size≤Ma)<|an_ (nl_ hg (pk_ Ka.out):Oa≠Ma)<|an_ (ng_ hg (pk_ Ka.out):Ma≠Oa)<|an_ (nl_ hg (pk_ Ua.out):Oc≠Ma)<|D (by rw [hg];exact Nat.ne_of_gt (blk_lt (pk_ Ua.out)):Ma≠Oc);clear Ka Ua HB;obtain ⟨Ka,Ua,HB,Ja,Xh,Ji,Xd,Xg,Od,Jh⟩:=n_;clear hb hbox hg;(try have:=Og.out);(try have:=Ug.out);(try have:=Xd.out);(try have:=Xg.out);(try have:=Jh.out);(try have:=Od.out))|((with_reducible refine gate_callee (f:=15) rfl ?_);refine goesL_ (some 15) rfl rfl Try.func15 (by kernel_rfl) rfl #[.agg #[I L a0_3,I L a0_4,I L a0_5,I L a0_6,I L a0_7,I L a0_8,I L a0_9,I L a0_10,I L a0_11,I L a0_12,I L a0_13,I L a0_14,I L a0_15,I L a0_16,I L a0_17,I L a0_18,I L a0_19,I L a0_20,I L a0_21,I L a0_22,I L a0_23]] rfl Z6 ?_;(with_reducible refine (laws_toRule.calls a0_3 a0_4 a0_5 a0_6 a0_7 a0_8 a0_9 a0_10 a0_11 a0_12 a0_13 a0_14 a0_15 a0_16 a0_17 a0_18 a0_19 a0_20 a0_21 a0_22 a0_23 Xa Jb Kb Mb Ob Ub Xb Jc Kc Mc Uc Xc Jd Md Ud Je Ke Me Oe Ue Xe _ A2.out).mono ?_);rintro e w13 ⟨rfl,hb⟩;refine ⟨_,rfl,?_⟩;have n_:=an_ (blk_below (g:=Oa) (o:=.cells #[I L a0_0,I L a0_1,I L a0_2,I L a0_3,I L a0_4,I L a0_5,I L a0_6,I L a0_7,I L a0_8,I L a0_9,I L a0_10,I L a0_11,I L a0_12,I L a0_13,I L a0_14,I L a0_15,I L a0_16,I L a0_17,I L a0_18,I L a0_19,I L a0_20,I L a0_21,I L a0_22,I L a0_23,I L a0_24,I L a0_25,I L a0_26,I L a0_27,.bool a0_28,Y A0_29 l0_29.length c0_29] 32 (0,0)) (by exact pP_ Ka.out) hb)<|an_ (blk_below (g:=Oc) (o:=.cells #[I L 0,I L 0,I L 0,I L 0,I L 0,I L 0,I L 0,I L 0,I L 0,I L 0,I L 0,I L 0,I L 0,I L 0,I L 0,I L 0,I L 0,I L 0,I L 0,I L 0,I L 0,I L 0,I L 0,I L 0,I L 0,I L 0,I L 0,I L 0,.bool false,Y none 0 0] 43 (0,0)) (by exact pP_ Ua.out) hb)<|an_ (blk_below (g:=Ma) (o:=.cells #[I L a0_0,I L a0_1,I L a0_2,I L 0,I L 0,I L 0,I L 0,I L 0,I L 0,I L 0,I L 0,I L 0,I L 0,I L 0,I L 0,I L 0,I L 0,I L 0,I L 0,I L 0,I L 0,I L 0,I L 0,I L 0,I L 0,I L 0,I L 0,I L 0,.bool false,Y none 0 0] 43 (0,0)) (by exact pP_ Ja.out) hb)<|D (below_step (pB_ HB.out) hb);clear Ka Ua Ja HB;obtain ⟨Ka,Ua,Ja,HB⟩:=n_;(try clear hb))|((with_reducible refine gate_callee (f:=16) rfl ?_);refine goesL_ (some 19) rfl rfl Try.func16 (by kernel_rfl) rfl #[.agg #[I L a0_24,I L a0_25,I L a0_26,I L a0_27,.bool a0_28]] rfl Z6 ?_;(with_reducible refine (laws_toLimits.calls a0_24 a0_25 a0_26 a0_27 a0_28 Jf Kf Mf Of Xf _ A3.out).mono ?_);rintro e w16 ⟨rfl,hb⟩;refine ⟨_,rfl,?_⟩;have n_:=an_ (blk_below (g:=Oa) (o:=.cells #[I L a0_0,I L a0_1,I L a0_2,I L a0_3,I L a0_4,I L a0_5,I L a0_6,I L a0_7,I L a0_8,I L a0_9,I L a0_10,I L a0_11,I L a0_12,I L a0_13,I L a0_14,I L a0_15,I L a0_16,I L a0_17,I L a0_18,I L a0_19,I L a0_20,I L a0_21,I L a0_22,I L a0_23,I L a0_24,I L a0_25,I L a0_26,I L a0_27,.bool a0_28,Y A0_29 l0_29.length c0_29] 32 (0,0)) (by exact pP_ Ka.out) hb)<|an_ (blk_below (g:=Oc) (o:=.cells #[I L 0,I L 0,I L 0,I L 0,I L 0,I L 0,I L 0,I L 0,I L 0,I L 0,I L 0,I L 0,I L 0,I L 0,I L 0,I L 0,I L 0,I L 0,I L 0,I L 0,I L 0,I L 0,I L 0,I L 0,I L 0,I L 0,I L 0,I L 0,.bool false,Y none 0 0] 43 (0,0)) (by exact pP_ Ua.out) hb)<|an_ (blk_below (g:=Ma) (o:=.cells #[I L a0_0,I L a0_1,I L a0_2,I L Xa,I L Jb,I L Kb,I L Mb,I L Ob,I L Ub,I L Xb,I L Jc,I L Kc,I L Mc,I L Uc,I L Xc,I L Jd,I L Md,I L Ud,I L Je,I L Ke,I L Me,I L Oe,I L Ue,I L Xe,I L 0,I L 0,I L 0,I L 0,.bool false,Y none 0 0] 43 (0,0)) (by exact pP_ Ja.out) hb)<|D (below_step (pB_ HB.out) hb);clear Ka Ua Ja HB;obtain ⟨Ka,Ua,Ja,HB⟩:=n_;(try clear hb))|((with_reducible refine gate_callee (f:=17) rfl ?_);refine goesL_ (some 23) rfl rfl Try.func17 (by kernel_rfl) rfl #[Y A0_29 l0_29.length c0_29] rfl Z6 ?_;(with_reducible refine (laws_toModuleS.calls k _ _ l0_29 Uf _ ?side1 ?side2 A4.out).mono ?_);(case side1=>exact Kd.C_below HR0_29.out (pB_ HB.out));(case side2=>exact HC0_29.out);rintro e w19 ⟨Kz2,rfl,ho0,hb⟩;refine ⟨_,rfl,?_⟩;have n_:=an_ (Kd.R_lower ho0 (below_size (pB_ HB.out)))<|an_ (blk_below (g:=Oa) (o:=.cells #[I L a0_0,I L a0_1,I L a0_2,I L a0_3,I L a0_4,I L a0_5,I L a0_6,I L a0_7,I L a0_8,I L a0_9,I L a0_10,I L a0_11,I L a0_12,I L a0_13,I L a0_14,I L a0_15,I L a0_16,I L a0_17,I L a0_18,I L a0_19,I L a0_20,I L a0_21,I L a0_22,I L a0_23,I L a0_24,I L a0_25,I L a0_26,I L a0_27,.bool a0_28,Y A0_29 l0_29.length c0_29] 32 (0,0)) (by exact pP_ Ka.out) hb)<|an_ (blk_below (g:=Oc) (o:=.cells #[I L 0,I L 0,I L 0,I L 0,I L 0,I L 0,I L 0,I L 0,I L 0,I L 0,I L 0,I L 0,I L 0,I L 0,I L 0,I L 0,I L 0,I L 0,I L 0,I L 0,I L 0,I L 0,I L 0,I L 0,I L 0,I L 0,I L 0,I L 0,.bool false,Y none 0 0] 43 (0,0)) (by exact pP_ Ua.out) hb)<|an_ (blk_below (g:=Ma) (o:=.cells #[I L a0_0,I L a0_1,I L a0_2,I L Xa,I L Jb,I L Kb,I L Mb,I L Ob,I L Ub,I L Xb,I L Jc,I L Kc,I L Mc,I L Uc,I L Xc,I L Jd,I L Md,I L Ud,I L Je,I L Ke,I L Me,I L Oe,I L Ue,I L Xe,I L Jf,I L Kf,I L Mf,I L Of,.bool Xf,Y none 0 0] 43 (0,0)) (by exact pP_ Ja.out) hb)<|D (below_step (pB_ HB.out) hb);clear Ka Ua Ja HB;obtain ⟨Mg,Ka,Ua,Ja,HB⟩:=n_;(try clear hb);(try clear ho0);obtain ⟨Jg,Kg,eo20⟩:=Kd.R_slice Mg.out;subst eo20))
 refine bodyPost_ret (results_cell_row rfl _ _ Oc 43 #[I L a0_0,I L a0_1,I L a0_2,I L Xa,I L Jb,I L Kb,I L Mb,I L Ob,I L Ub,I L Xb,I L Jc,I L Kc,I L Mc,I L Uc,I L Xc,I L Jd,I L Md,I L Ud,I L Je,I L Ke,I L Me,I L Oe,I L Ue,I L Xe,I L Jf,I L Kf,I L Mf,I L Of,.bool Xf,Y Jg Uf.length Kg] (0,0) _ rfl (by exact pP_ Ua.out) Try.underlying43 rfl (by kernel_rfl)) rfl ?_
 exact ⟨_,er_,by (with_reducible repeat (first|apply Kd.R_alloc|apply Kd.R_drewN|apply Kd.R_drew));exact Kd.R_mono (fr_ (fr_ (fr_ (fr_ (fr_ (fr_ (fr_ (fr_ (fr_ (fr_ (fr_ (fr_ (fr_ (fr_ (fr_ (fr_ (fr_ (fr_ (fr_ (fr_ (fr_ (fr_ (fr_ (fr_ (fr_ (fr_ (fr_ (fr_ (fr_ (fr_ (Kd.R_far (p:=⟨Ma,29,none⟩) (Kd.R_types (Kd.R_types Mg.out Ja.out (by decide)) Ua.out (by decide)) (fun _ hk=>hk.1.2) (Y Jg Uf.length Kg)) 0 (I L a0_0)) 1 (I L a0_1)) 2 (I L a0_2)) 3 (I L Xa)) 4 (I L Jb)) 5 (I L Kb)) 6 (I L Mb)) 7 (I L Ob)) 8 (I L Ub)) 9 (I L Xb)) 10 (I L Jc)) 11 (I L Kc)) 12 (I L Mc)) 13 (I L Uc)) 14 (I L Xc)) 15 (I L Jd)) 16 (I L Md)) 17 (I L Ud)) 18 (I L Je)) 19 (I L Ke)) 20 (I L Me)) 21 (I L Oe)) 22 (I L Ue)) 23 (I L Xe)) 24 (I L Jf)) 25 (I L Kf)) 26 (I L Mf)) 27 (I L Of)) 28 (.bool Xf)) 29 (Y Jg Uf.length Kg)) (fun _ hk=>trivial),pB_ HB.out⟩

/-! ### impl_within: function 18 -/
def impl_within.f (a0 a1 a2 : Int) : Option (Bool) := if a0 ≥ a1 then (some (decide (a0 ≤ a2))) else (some false)
set_option maxHeartbeats 8000000 in
set_option maxRecDepth 100000 in
theorem impl_within.calls (a0 a1 a2 : Int) (r : Bool) (w : World) (h : impl_within.f a0 a1 a2 = some r) :
  Calls Try.prog 18 #[I L a0, I L a1, I L a2] w fun e w' => e = .returned (.bool r) ∧ Drawn0 w w' := by
 have H : (if a0 ≥ a1 then (some (decide (a0 ≤ a2))) else (some false)) = some r := h
 clear h
 by_cases c4 : a0 ≥ a1
 ·rw [if_pos c4] at H
  have c4b0 : decide (a1 ≤ a0) = true := decide_eq_true c4; clear c4; obtain rfl := Option.some.inj H; go_enter Try.func18, Try.ntmps18
  go_wp2
  go_ret; exact ⟨by first | rfl | (simp; done) | (simp [*]; done), by repeat (first | exact Drawn0.refl _ | apply Drawn0.step)⟩
 ·rw [if_neg c4] at H
  have c4b0 : decide (a1 ≤ a0) = false := decide_eq_false c4; clear c4; obtain rfl := Option.some.inj H; go_enter Try.func18, Try.ntmps18
  go_wp2
  go_ret; exact ⟨by first | rfl | (simp; done) | (simp [*]; done), by repeat (first | exact Drawn0.refl _ | apply Drawn0.step)⟩

/-! ### impl_isWeight: function 19 -/
def impl_isWeight.f (a0 : Int) : Option (Bool) := (impl_within.f a0 1 10).bind fun t326 => (some t326)
set_option maxHeartbeats 8000000 in
set_option maxRecDepth 100000 in
theorem impl_isWeight.calls (a0 : Int) (r : Bool) (w : World) (h : impl_isWeight.f a0 = some r) :
  Calls Try.prog 19 #[I L a0] w fun e w' => e = .returned (.bool r) ∧ Drawn0 w w' := by
 have H : ((impl_within.f a0 1 10).bind fun t326 => (some t326)) = some r := h
 clear h
 obtain ⟨t326, A20, H⟩ := bs_.mp H
 (try dsimp only at H)
 have A2 := D A20
 clear A20
 obtain rfl := Option.some.inj H
 go_enter Try.func19, Try.ntmps19
 go_wp2_with (first|((with_reducible refine gate_callee (f:=18) rfl ?_);refine goesL_ (some 4) rfl rfl Try.func18 (by kernel_rfl) rfl #[I L a0,I L 1,I L 10] rfl Z6 ?_;(with_reducible refine (impl_within.calls a0 1 10 t326 _ A2.out).mono ?_);rintro e w' ⟨rfl,⟨nd,rfl⟩⟩;refine ⟨_,rfl,?_⟩))
 go_ret
 exact ⟨by first | rfl | (simp; done) | (simp [*]; done), by repeat (first | exact Drawn0.refl _ | apply Drawn0.step)⟩

/-! ### slices_IndexFunc_int_int: function 47 -/
def slices_IndexFunc_int_int.l0 : Nat → List Int → (Int → Option (Bool)) → Int → Int → Option (Int)
 | 0, _, _, _, _ => none
 | k + 1,x0,x1,x7,x8=>if x8 < x7 then (if 0≤x8 then (if x8 < (x0.length:Int) then ((x1 (rd x0 x8)).bind fun t328=>(if t328=true then (some x8) else (slices_IndexFunc_int_int.l0 k x0 x1 x7 (wrap64 (x8 + 1))))) else (none)) else (none)) else (some (-1))
def slices_IndexFunc_int_int.f (k : Nat) (l0 : List Int) (a1 : (Int → Option (Bool))) : Option (Int) := slices_IndexFunc_int_int.l0 k l0 a1 (l0.length : Int) 0
set_option maxHeartbeats 8000000 in
set_option maxRecDepth 100000 in
theorem slices_IndexFunc_int_int.calls (k : Nat) (A0 : Option Addr) (c0 : Nat) (l0 : List Int) (a1 : (Int → Option (Bool))) (fn1 : Nat) (cp1 : Array Value) (r : Int) (w : World) (hr0 : Kd.C (Kd.int .i64) w A0 l0.length l0) (hc0 : l0.length ≤ c0) (hq1 : Aside0 (∃ F_, Try.prog.funcs[fn1]? = some F_ ∧ (F_.name == "runtime.NumGoroutine") = false ∧ F_.body.isSome = true)) (HP1_47 : Aside0 (∀ (a900 : Int) (rr0_ : Bool) (W_ : World), Below w.heap.size w W_ → a1 a900 = some rr0_ → Calls Try.prog fn1 (#[I L a900] ++ cp1) W_ (fun e w' => e = .returned (.bool rr0_) ∧ Below W_.heap.size W_ w'))) (h : slices_IndexFunc_int_int.f k l0 a1 = some r) :
  Calls Try.prog 47 #[Y A0 l0.length c0, .func (.func fn1) #[] cp1] w fun e w' => e = .returned (I L r) ∧ Below w.heap.size w w' := by
 have HR0 := D hr0
 have HC0 := D hc0
 clear hr0 hc0
 have HB := D (Below.refl w.heap.size w)
 have H : (slices_IndexFunc_int_int.l0 k l0 a1 (l0.length : Int) 0) = some r := h
 clear h
 have H' := D H
 clear H
 go_enter Try.func47, Try.ntmps47
 go_wp2
 go_loopg [8] k (fun kq v8 w'=>∃ (x8_1:Int),v8=I L x8_1∧Aside0 (slices_IndexFunc_int_int.l0 kq l0 a1 (l0.length:Int) x8_1=some r)∧Aside0 (kq≤k)∧Aside0 (Below w.heap.size w w'))
 case atStart => exact ⟨(0), Z11, H', ⟨Nat.le_refl _⟩, ⟨pB_ HB.out⟩⟩
 case round =>
  clear H'
  try clear p2
  obtain ⟨x8_1, rfl, HA, HK1, HB⟩ := hrel
  cases gk with
  | zero => exact absurd HA.out (by simp [slices_IndexFunc_int_int.l0])
  | succ k1 =>
   have H := HA.out; clear HA; simp only [slices_IndexFunc_int_int.l0] at H
   by_cases c3 : x8_1 < (l0.length : Int)
   ·rw [if_pos c3] at H
    have c3b0 : decide (x8_1 < (l0.length : Int)) = true := decide_eq_true c3; clear c3
    by_cases c4 : 0 ≤ x8_1
    ·rw [if_pos c4] at H
     have c4b0 : decide (0 ≤ x8_1) = true := decide_eq_true c4; clear c4
     by_cases c5 : x8_1 < (l0.length : Int)
     ·rw [if_pos c5] at H
      have c5b0:decide (x8_1 < (l0.length:Int))=true:=decide_eq_true c5;clear c5;obtain ⟨t328,A60,H⟩:=bs_.mp H;(try dsimp only at H);have A6:=D A60;clear A60;have HU7:=D H;clear H;have p327:0≤(x8_1:Int):=od_ Z10;have q327:x8_1 < (l0.length:Int):=od_ Z10;obtain ⟨ad327,e327,hx327_0⟩:=Kd.at_int HR0.out x8_1 p327 q327;cases e327;replace hx327_0:=rc_ HB.out hx327_0;replace p327:=eq_true p327;replace q327:=eq_true q327
      go_upto_if 16 with (first|((with_reducible refine gate_calleeV (j:=11) rfl ?_);obtain ⟨_,hF1_,hF2_,hF3_⟩:=hq1.out;refine goesVL_ (some 16) rfl rfl hF1_ hF2_ hF3_ #[I L (rd l0 x8_1)] (cp:=cp1) rfl (by first|rfl|(go_simp;done)|simp) Z6 ?_;(with_reducible refine (HP1_47.out (rd l0 x8_1) t328 _ ?side1 A6.out).mono ?_);(case side1=>exact pB_ HB.out);rintro e w8 ⟨rfl,hb⟩;refine ⟨_,rfl,?_⟩;have n0_:=D (below_step (pB_ HB.out) hb);clear HB;have HB:=n0_;clear n0_;(try clear hb)))
      have H := HU7.out; clear HU7
      by_cases c9 : t328 = true
      ·subst c9
       rw [if_pos rfl] at H; obtain rfl := Option.some.inj H
       go_wp2
       go_ret; exact ⟨er_, pB_ HB.out⟩
      ·replace c9 := Bool.eq_false_iff.mpr c9
       subst c9; rw [if_neg (show ¬ (false = true) by decide)] at H; have H' := D H; clear H
       go_wp2
       go_roundg k1
       case measure => have := HK1.out; omega
       case rel => exact ⟨(wrap64 (x8_1 + 1)), Z11, H', ⟨by have := HK1.out; omega⟩, ⟨pB_ HB.out⟩⟩
     ·rw [if_neg c5] at H
      exact absurd H (by simp)
    ·rw [if_neg c4] at H
     exact absurd H (by simp)
   ·rw [if_neg c3] at H
    have c3b0 : decide (x8_1 < (l0.length : Int)) = false := decide_eq_false c3; clear c3; obtain rfl := Option.some.inj H
    go_wp2
    go_ret; exact ⟨er_, pB_ HB.out⟩

/-! ### slices_ContainsFunc_int_int: function 32 -/
def slices_ContainsFunc_int_int.f (k : Nat) (l0 : List Int) (a1 : (Int → Option (Bool))) : Option (Bool) := (slices_IndexFunc_int_int.f k l0 a1).bind fun t329 => (some (decide (t329 ≥ 0)))
set_option maxHeartbeats 8000000 in
set_option maxRecDepth 100000 in
theorem slices_ContainsFunc_int_int.calls (k : Nat) (A0 : Option Addr) (c0 : Nat) (l0 : List Int) (a1 : (Int → Option (Bool))) (fn1 : Nat) (cp1 : Array Value) (r : Bool) (w : World) (hr0 : Kd.C (Kd.int .i64) w A0 l0.length l0) (hc0 : l0.length ≤ c0) (hq1 : Aside0 (∃ F_, Try.prog.funcs[fn1]? = some F_ ∧ (F_.name == "runtime.NumGoroutine") = false ∧ F_.body.isSome = true)) (HP1_32 : Aside0 (∀ (a900 : Int) (rr0_ : Bool) (W_ : World), Below w.heap.size w W_ → a1 a900 = some rr0_ → Calls Try.prog fn1 (#[I L a900] ++ cp1) W_ (fun e w' => e = .returned (.bool rr0_) ∧ Below W_.heap.size W_ w'))) (h : slices_ContainsFunc_int_int.f k l0 a1 = some r) :
  Calls Try.prog 32 #[Y A0 l0.length c0, .func (.func fn1) #[] cp1] w fun e w' => e = .returned (.bool r) ∧ Below w.heap.size w w' := by
 have HR0 := D hr0
 have HC0 := D hc0
 clear hr0 hc0
 have HB := D (Below.refl w.heap.size w)
 have H : ((slices_IndexFunc_int_int.f k l0 a1).bind fun t329 => (some (decide (t329 ≥ 0)))) = some r := h
 clear h
 obtain ⟨t329, A30, H⟩ := bs_.mp H
 (try dsimp only at H)
 have A3 := D A30
 clear A30
 obtain rfl := Option.some.inj H
 go_enter Try.func32, Try.ntmps32
 go_wp2_with (first|((with_reducible refine gate_callee (f:=47) rfl ?_);refine goesL_ (some 7) rfl rfl Try.func47 (by kernel_rfl) rfl #[Y A0 l0.length c0,.func (.func fn1) #[] cp1] rfl Z6 ?_;(with_reducible refine (slices_IndexFunc_int_int.calls k _ _ l0 a1 fn1 cp1 t329 _ ?side1 ?side2 ?side3 ?side4 A3.out).mono ?_);(case side1=>exact pC_ HR0.out);(case side2=>exact HC0.out);(case side3=>exact hq1);(case side4=>refine ⟨?_⟩;intro a900 rr0_ W_ hW_ h_;exact HP1_32.out a900 rr0_ W_ (below_step (pB_ HB.out) hW_) h_);rintro e w4 ⟨rfl,hb⟩;refine ⟨_,rfl,?_⟩;have n0_:=D (below_step (pB_ HB.out) hb);clear HB;have HB:=n0_;clear n0_;(try clear hb)))
 go_ret
 exact ⟨er_, pB_ HB.out⟩

/-! ### impl_areZero_1: function 33 -/
def impl_areZero_1.f (a0 : Int) : Option (Bool) := some (a0 != 0)
set_option maxHeartbeats 8000000 in
set_option maxRecDepth 100000 in
theorem impl_areZero_1.calls (a0 : Int) (r : Bool) (w : World) (h : impl_areZero_1.f a0 = some r) :
  Calls Try.prog 33 #[I L a0] w fun e w' => e = .returned (.bool r) ∧ Drawn0 w w' := by
 have H : (some (a0 != 0)) = some r := h
 clear h
 obtain rfl := Option.some.inj H
 go_enter Try.func33, Try.ntmps33
 go_wp2
 go_ret
 exact ⟨by first | rfl | (simp; done) | (simp [*]; done), by repeat (first | exact Drawn0.refl _ | apply Drawn0.step)⟩

/-! ### impl_areZero: function 20 -/
def impl_areZero.f (k : Nat) (l0 : List Int) : Option (Bool) := (slices_ContainsFunc_int_int.f k l0 (fun z0_ => impl_areZero_1.f z0_)).bind fun t330 => (some (!t330))
set_option maxHeartbeats 8000000 in
set_option maxRecDepth 100000 in
theorem impl_areZero.calls (k : Nat) (A0 : Option Addr) (c0 : Nat) (l0 : List Int) (r : Bool) (w : World) (hr0 : Kd.C (Kd.int .i64) w A0 l0.length l0) (hc0 : l0.length ≤ c0) (h : impl_areZero.f k l0 = some r) :
  Calls Try.prog 20 #[Y A0 l0.length c0] w fun e w' => e = .returned (.bool r) ∧ Below w.heap.size w w' := by
 have HR0 := D hr0
 have HC0 := D hc0
 clear hr0 hc0
 have HB := D (Below.refl w.heap.size w)
 have H : ((slices_ContainsFunc_int_int.f k l0 (fun z0_ => impl_areZero_1.f z0_)).bind fun t330 => (some (!t330))) = some r := h
 clear h
 obtain ⟨t330, A20, H⟩ := bs_.mp H
 (try dsimp only at H)
 have A2 := D A20
 clear A20
 obtain rfl := Option.some.inj H
 go_enter Try.func20, Try.ntmps20
 go_wp2_with (first|((with_reducible refine gate_callee (f:=32) rfl ?_);refine goesL_ (some 4) rfl rfl Try.func32 (by kernel_rfl) rfl #[Y A0 l0.length c0,.func (.func 33) #[] #[]] rfl Z6 ?_;(with_reducible refine (slices_ContainsFunc_int_int.calls k _ _ l0 (fun z0_=>impl_areZero_1.f z0_) 33 #[] t330 _ ?side1 ?side2 ?side3 ?side4 A2.out).mono ?_);(case side1=>exact pC_ HR0.out);(case side2=>exact HC0.out);(case side3=>exact ⟨⟨_,Try.func33,by kernel_rfl,rfl⟩⟩);(case side4=>refine ⟨?_⟩;intro a900 rr0_ W_ hW_ h_;refine calls_of_args (args':=#[I L a900]) (by simp) ?_;refine (impl_areZero_1.calls a900  rr0_ W_ h_).mono ?_;rintro e w' ⟨rfl,hd_⟩;exact ⟨rfl,hd_.below⟩);rintro e w3 ⟨rfl,hb⟩;refine ⟨_,rfl,?_⟩;have n0_:=D (below_step (pB_ HB.out) hb);clear HB;have HB:=n0_;clear n0_;(try clear hb)))
 go_ret
 exact ⟨er_, pB_ HB.out⟩

/-! ### impl_isAny: function 48 -/
def impl_isAny.f (a0_0 a0_1 a0_2 a0_3 a0_4 a0_5 : Int) : Option (Bool) := some ((a0_0 == 0 && (a0_1 == 0 && (a0_2 == 0 && (a0_3 == 0 && (a0_4 == 0))))) && (a0_5 == 0))
set_option maxHeartbeats 8000000 in
set_option maxRecDepth 100000 in
theorem impl_isAny.calls (a0_0 a0_1 a0_2 a0_3 a0_4 a0_5 : Int) (r : Bool) (w : World) (h : impl_isAny.f a0_0 a0_1 a0_2 a0_3 a0_4 a0_5 = some r) :
  Calls Try.prog 48 #[.agg #[I L a0_0, I L a0_1, I L a0_2, I L a0_3, I L a0_4, I L a0_5]] w fun e w' => e = .returned (.bool r) ∧ Below w.heap.size w w' := by
 have hu37 := Try.underlying37
 have HB := D (Below.refl w.heap.size w)
 have H : (some ((a0_0 == 0 && (a0_1 == 0 && (a0_2 == 0 && (a0_3 == 0 && (a0_4 == 0))))) && (a0_5 == 0))) = some r := h
 clear h
 obtain rfl := Option.some.inj H
 go_enter Try.func48, Try.ntmps48
 go_wp2_with (first|((with_reducible refine gate_dst (N:=1) rfl ?_);refine bx_ (N:=1) (cs:=#[I L a0_0,I L a0_1,I L a0_2,I L a0_3,I L a0_4,I L a0_5]) (t:=37) ?_;intro gb331 hg w2 hbox hb;have n_:=an_ (below_step (pB_ HB.out) hb)<|an_ (hbox)<|an_ (bg_ hg (pB_ HB.out):w.heap.size≤gb331)<|D (bg_ hg (pB_ HB.out):w.heap.size≤gb331);clear HB;obtain ⟨HB,BK331,GW331,GE331⟩:=n_;clear hb hbox hg;have hcz3_0:=cells6 BK331.out))
 go_ret
 exact ⟨er_, pB_ HB.out⟩

/-! ### impl_isLong: function 58 -/
def impl_isLong.f (a0 : Int) : Option (Bool) := (impl_within.f a0 0 4294967295).bind fun t332 => (some t332)
set_option maxHeartbeats 8000000 in
set_option maxRecDepth 100000 in
theorem impl_isLong.calls (a0 : Int) (r : Bool) (w : World) (h : impl_isLong.f a0 = some r) :
  Calls Try.prog 58 #[I L a0] w fun e w' => e = .returned (.bool r) ∧ Drawn0 w w' := by
 have H : ((impl_within.f a0 0 4294967295).bind fun t332 => (some t332)) = some r := h
 clear h
 obtain ⟨t332, A20, H⟩ := bs_.mp H
 (try dsimp only at H)
 have A2 := D A20
 clear A20
 obtain rfl := Option.some.inj H
 go_enter Try.func58, Try.ntmps58
 go_wp2_with (first|((with_reducible refine gate_callee (f:=18) rfl ?_);refine goesL_ (some 4) rfl rfl Try.func18 (by kernel_rfl) rfl #[I L a0,I L 0,I L 4294967295] rfl Z6 ?_;(with_reducible refine (impl_within.calls a0 0 4294967295 t332 _ A2.out).mono ?_);rintro e w' ⟨rfl,⟨nd,rfl⟩⟩;refine ⟨_,rfl,?_⟩))
 go_ret
 exact ⟨by first | rfl | (simp; done) | (simp [*]; done), by repeat (first | exact Drawn0.refl _ | apply Drawn0.step)⟩

/-! ### impl_AddrOk: function 49 -/
def impl_AddrOk.f (a0_0 a0_1 a0_2 a0_3 a0_4 : Int) : Option (Bool) := if a0_0 = 4 then (if a0_1 = 0 then (if a0_2 = 0 then (if a0_3 = 0 then ((impl_isLong.f a0_4).bind fun t334 => (some t334)) else (some false)) else (some false)) else (some false)) else (if a0_0 = 6 then ((impl_isLong.f a0_1).bind fun t335 => (if t335 = true then ((impl_isLong.f a0_2).bind fun t336 => (if t336 = true then ((impl_isLong.f a0_3).bind fun t337 => (if t337 = true then ((impl_isLong.f a0_4).bind fun t338 => (some t338)) else (some false))) else (some false))) else (some false))) else (some false))
set_option maxHeartbeats 8000000 in
set_option maxRecDepth 100000 in
theorem impl_AddrOk.calls (a0_0 a0_1 a0_2 a0_3 a0_4 : Int) (r : Bool) (w : World) (h : impl_AddrOk.f a0_0 a0_1 a0_2 a0_3 a0_4 = some r) :
  Calls Try.prog 49 #[.agg #[I L a0_0, I L a0_1, I L a0_2, I L a0_3, I L a0_4]] w fun e w' => e = .returned (.bool r) ∧ Below w.heap.size w w' := by
 have hu35 := Try.underlying35
 have HB := D (Below.refl w.heap.size w)
 have H:(if a0_0=4 then (if a0_1=0 then (if a0_2=0 then (if a0_3=0 then ((impl_isLong.f a0_4).bind fun t334=>(some t334)) else (some false)) else (some false)) else (some false)) else (if a0_0=6 then ((impl_isLong.f a0_1).bind fun t335=>(if t335=true then ((impl_isLong.f a0_2).bind fun t336=>(if t336=true then ((impl_isLong.f a0_3).bind fun t337=>(if t337=true then ((impl_isLong.f a0_4).bind fun t338=>(some t338)) else (some false))) else (some false))) else (some false))) else (some false)))=some r:=h
 clear h
 have HU2 := D H
 clear H
 go_enter Try.func49, Try.ntmps49
 go_upto_if 5 with (first|((with_reducible refine gate_dst (N:=1) rfl ?_);refine bx_ (N:=1) (cs:=#[I L a0_0,I L a0_1,I L a0_2,I L a0_3,I L a0_4]) (t:=35) ?_;intro gb333 hg w3 hbox hb;have n_:=an_ (below_step (pB_ HB.out) hb)<|an_ (hbox)<|an_ (bg_ hg (pB_ HB.out):w.heap.size≤gb333)<|D (bg_ hg (pB_ HB.out):w.heap.size≤gb333);clear HB;obtain ⟨HB,BK333,GW333,GE333⟩:=n_;clear hb hbox hg;have hcz4_0:=cells5 BK333.out))
 have H := HU2.out
 clear HU2
 by_cases c5 : a0_0 = 4
 ·rw [if_pos c5] at H
  have c5b0:(a0_0 == 4)=true:=beq_iff_eq.mpr c5;have c5b1:(a0_0 != 4)=false:=bne_eq_false_iff_eq.mpr c5;clear c5;refine rw_ c5b0 ?_
  by_cases c6 : a0_1 = 0
  ·rw [if_pos c6] at H
   have c6b0 : (a0_1 == 0) = true := beq_iff_eq.mpr c6; have c6b1 : (a0_1 != 0) = false := bne_eq_false_iff_eq.mpr c6; clear c6
   by_cases c7 : a0_2 = 0
   ·rw [if_pos c7] at H
    have c7b0 : (a0_2 == 0) = true := beq_iff_eq.mpr c7; have c7b1 : (a0_2 != 0) = false := bne_eq_false_iff_eq.mpr c7; clear c7
    by_cases c8 : a0_3 = 0
    ·rw [if_pos c8] at H
     have c8b0:(a0_3 == 0)=true:=beq_iff_eq.mpr c8;have c8b1:(a0_3 != 0)=false:=bne_eq_false_iff_eq.mpr c8;clear c8;obtain ⟨t334,A90,H⟩:=bs_.mp H;(try dsimp only at H);have A9:=D A90;clear A90;obtain rfl:=Option.some.inj H;have hcz10_0:=cells5 BK333.out
     go_wp2_with (first | (go_at_call 58; (with_reducible refine (impl_isLong.calls a0_4 t334 _ A9.out).mono ?_); rintro e w' ⟨rfl, ⟨nd, rfl⟩⟩))
     go_ret; exact ⟨er_, pB_ HB.out⟩
    ·rw [if_neg c8] at H
     have c8b0:(a0_3 == 0)=false:=beq_eq_false_iff_ne.mpr c8;have c8b1:(a0_3 != 0)=true:=bne_iff_ne.mpr c8;obtain rfl:=Option.some.inj H;have hcz11_0:=cells5 BK333.out
     go_wp2
     go_ret; exact ⟨er_, pB_ HB.out⟩
   ·rw [if_neg c7] at H
    have c7b0:(a0_2 == 0)=false:=beq_eq_false_iff_ne.mpr c7;have c7b1:(a0_2 != 0)=true:=bne_iff_ne.mpr c7;obtain rfl:=Option.some.inj H;have hcz12_0:=cells5 BK333.out
    go_wp2
    go_ret; exact ⟨er_, pB_ HB.out⟩
  ·rw [if_neg c6] at H
   have c6b0:(a0_1 == 0)=false:=beq_eq_false_iff_ne.mpr c6;have c6b1:(a0_1 != 0)=true:=bne_iff_ne.mpr c6;obtain rfl:=Option.some.inj H;have hcz13_0:=cells5 BK333.out
   go_wp2
   go_ret; exact ⟨er_, pB_ HB.out⟩
 ·rw [if_neg c5] at H
  have c5b0:(a0_0 == 4)=false:=beq_eq_false_iff_ne.mpr c5;have c5b1:(a0_0 != 4)=true:=bne_iff_ne.mpr c5;refine rw_ c5b0 ?_
  by_cases c14 : a0_0 = 6
  ·rw [if_pos c14] at H
   have c14b0:(a0_0 == 6)=true:=beq_iff_eq.mpr c14;have c14b1:(a0_0 != 6)=false:=bne_eq_false_iff_eq.mpr c14;clear c14;obtain ⟨t335,A150,H⟩:=bs_.mp H;(try dsimp only at H);have A15:=D A150;clear A150
   by_cases c16 : t335 = true
   ·subst c16
    rw [if_pos rfl] at H; obtain ⟨t336, A170, H⟩ := bs_.mp H; (try dsimp only at H); have A17 := D A170; clear A170
    by_cases c18 : t336 = true
    ·subst c18
     rw [if_pos rfl] at H; obtain ⟨t337, A190, H⟩ := bs_.mp H; (try dsimp only at H); have A19 := D A190; clear A190
     by_cases c20 : t337 = true
     ·subst c20
      rw [if_pos rfl] at H;obtain ⟨t338,A210,H⟩:=bs_.mp H;(try dsimp only at H);have A21:=D A210;clear A210;obtain rfl:=Option.some.inj H;have hcz22_0:=cells5 BK333.out
      go_wp2_with (first|((with_reducible refine gate_callee (f:=58) rfl ?_);refine goesL_ (some 29) rfl rfl Try.func58 (by kernel_rfl) rfl #[I L a0_1] rfl Z6 ?_;(with_reducible refine (impl_isLong.calls a0_1 true _ A15.out).mono ?_);rintro e w' ⟨rfl,⟨nd,rfl⟩⟩;refine ⟨_,rfl,?_⟩)|(go_at_call 58;(with_reducible refine (impl_isLong.calls a0_2 true _ A17.out).mono ?_);rintro e w' ⟨rfl,⟨nd,rfl⟩⟩)|(go_at_call 58;(with_reducible refine (impl_isLong.calls a0_3 true _ A19.out).mono ?_);rintro e w' ⟨rfl,⟨nd,rfl⟩⟩)|(go_at_call 58;(with_reducible refine (impl_isLong.calls a0_4 t338 _ A21.out).mono ?_);rintro e w' ⟨rfl,⟨nd,rfl⟩⟩))
      go_ret; exact ⟨er_, pB_ HB.out⟩
     ·replace c20 := Bool.eq_false_iff.mpr c20
      subst c20;rw [if_neg (show ¬ (false=true) by decide)] at H;obtain rfl:=Option.some.inj H;have hcz23_0:=cells5 BK333.out
      go_wp2_with (first|((with_reducible refine gate_callee (f:=58) rfl ?_);refine goesL_ (some 29) rfl rfl Try.func58 (by kernel_rfl) rfl #[I L a0_1] rfl Z6 ?_;(with_reducible refine (impl_isLong.calls a0_1 true _ A15.out).mono ?_);rintro e w' ⟨rfl,⟨nd,rfl⟩⟩;refine ⟨_,rfl,?_⟩)|(go_at_call 58;(with_reducible refine (impl_isLong.calls a0_2 true _ A17.out).mono ?_);rintro e w' ⟨rfl,⟨nd,rfl⟩⟩)|(go_at_call 58;(with_reducible refine (impl_isLong.calls a0_3 false _ A19.out).mono ?_);rintro e w' ⟨rfl,⟨nd,rfl⟩⟩))
      go_ret; exact ⟨er_, pB_ HB.out⟩
    ·replace c18 := Bool.eq_false_iff.mpr c18
     subst c18;rw [if_neg (show ¬ (false=true) by decide)] at H;obtain rfl:=Option.some.inj H;have hcz24_0:=cells5 BK333.out
     go_wp2_with (first|((with_reducible refine gate_callee (f:=58) rfl ?_);refine goesL_ (some 29) rfl rfl Try.func58 (by kernel_rfl) rfl #[I L a0_1] rfl Z6 ?_;(with_reducible refine (impl_isLong.calls a0_1 true _ A15.out).mono ?_);rintro e w' ⟨rfl,⟨nd,rfl⟩⟩;refine ⟨_,rfl,?_⟩)|(go_at_call 58;(with_reducible refine (impl_isLong.calls a0_2 false _ A17.out).mono ?_);rintro e w' ⟨rfl,⟨nd,rfl⟩⟩))
     go_ret; exact ⟨er_, pB_ HB.out⟩
   ·replace c16 := Bool.eq_false_iff.mpr c16
    subst c16;rw [if_neg (show ¬ (false=true) by decide)] at H;obtain rfl:=Option.some.inj H;have hcz25_0:=cells5 BK333.out
    go_wp2_with (first|((with_reducible refine gate_callee (f:=58) rfl ?_);refine goesL_ (some 29) rfl rfl Try.func58 (by kernel_rfl) rfl #[I L a0_1] rfl Z6 ?_;(with_reducible refine (impl_isLong.calls a0_1 false _ A15.out).mono ?_);rintro e w' ⟨rfl,⟨nd,rfl⟩⟩;refine ⟨_,rfl,?_⟩))
    go_ret; exact ⟨er_, pB_ HB.out⟩
  ·rw [if_neg c14] at H
   have c14b0 : (a0_0 == 6) = false := beq_eq_false_iff_ne.mpr c14; have c14b1 : (a0_0 != 6) = true := bne_iff_ne.mpr c14; obtain rfl := Option.some.inj H
   go_wp2
   go_ret; exact ⟨er_, pB_ HB.out⟩

/-! ### impl_bitsOf: function 50 -/
def impl_bitsOf.f (a0_0 a0_1 a0_2 a0_3 a0_4 : Int) : Option (Int) := if a0_0 = 4 then (some 32) else (some 128)
set_option maxHeartbeats 8000000 in
set_option maxRecDepth 100000 in
theorem impl_bitsOf.calls (a0_0 a0_1 a0_2 a0_3 a0_4 r : Int) (w : World) (h : impl_bitsOf.f a0_0 a0_1 a0_2 a0_3 a0_4 = some r) :
  Calls Try.prog 50 #[.agg #[I L a0_0, I L a0_1, I L a0_2, I L a0_3, I L a0_4]] w fun e w' => e = .returned (I L r) ∧ Below w.heap.size w w' := by
 have hu35 := Try.underlying35
 have HB := D (Below.refl w.heap.size w)
 have H : (if a0_0 = 4 then (some 32) else (some 128)) = some r := h
 clear h
 have HU2 := D H
 clear H
 go_enter Try.func50, Try.ntmps50
 go_upto_if 5 with (first|((with_reducible refine gate_dst (N:=1) rfl ?_);refine bx_ (N:=1) (cs:=#[I L a0_0,I L a0_1,I L a0_2,I L a0_3,I L a0_4]) (t:=35) ?_;intro gb339 hg w3 hbox hb;have n_:=an_ (below_step (pB_ HB.out) hb)<|an_ (hbox)<|an_ (bg_ hg (pB_ HB.out):w.heap.size≤gb339)<|D (bg_ hg (pB_ HB.out):w.heap.size≤gb339);clear HB;obtain ⟨HB,BK339,GW339,GE339⟩:=n_;clear hb hbox hg;have hcz4_0:=cells5 BK339.out))
 have H := HU2.out
 clear HU2
 by_cases c5 : a0_0 = 4
 ·rw [if_pos c5] at H
  have c5b0:(a0_0 == 4)=true:=beq_iff_eq.mpr c5;have c5b1:(a0_0 != 4)=false:=bne_eq_false_iff_eq.mpr c5;clear c5;refine rw_ c5b0 ?_;obtain rfl:=Option.some.inj H
  go_wp2
  go_ret; exact ⟨er_, pB_ HB.out⟩
 ·rw [if_neg c5] at H
  have c5b0:(a0_0 == 4)=false:=beq_eq_false_iff_ne.mpr c5;have c5b1:(a0_0 != 4)=true:=bne_iff_ne.mpr c5;refine rw_ c5b0 ?_;obtain rfl:=Option.some.inj H
  go_wp2
  go_ret; exact ⟨er_, pB_ HB.out⟩

/-! ### impl_put: function 69 -/
def impl_put.l0 : Nat → Int → Int → List Int → Int → Int → Option (List Int)
 | 0, _, _, _, _, _ => none
 | k + 1,x0,x1,x5,x10,x11=>if x11 < x10 then (if 0≤(wrap64 (8 * (wrap64 ((wrap64 (x1 - 1)) - x11)))) then (if 0≤x11 then (if x11 < (x5.length:Int) then (impl_put.l0 k x0 x1 (x5.set (x11:Int).toNat ((shr .i64 x0 (wrap64 (8 * (wrap64 ((wrap64 (x1 - 1)) - x11))))) % 256)) x10 (wrap64 (x11 + 1))) else (none)) else (none)) else (none)) else (some x5)
def impl_put.f (k : Nat) (a0 a1 : Int) : Option (List Int) := if 0 ≤ a1 then (if (a1 : Int).toNat ≤ 281474976710656 then ((some (List.replicate (a1 : Int).toNat 0 : List Int)).bind fun y340 => (impl_put.l0 k a0 a1 y340 (y340.length : Int) 0)) else (none)) else (none)
set_option maxHeartbeats 8000000 in
set_option maxRecDepth 100000 in
theorem impl_put.calls (k : Nat) (a0 a1 : Int) (r : List Int) (w : World) (h : impl_put.f k a0 a1 = some r) :
  Calls Try.prog 69 #[I L a0, I L a1] w fun e w' => ∃ v0_ : Value, e = .returned (v0_) ∧ Kd.R (Kd.int .u8) 5 w' w.heap.size (fun _ => True) v0_ r ∧ Below w.heap.size w w' := by
 have HB := D (Below.refl w.heap.size w)
 have H:(if 0≤a1 then (if (a1:Int).toNat≤281474976710656 then ((some (List.replicate (a1:Int).toNat 0:List Int)).bind fun y340=>(impl_put.l0 k a0 a1 y340 (y340.length:Int) 0)) else (none)) else (none))=some r:=h
 clear h
 by_cases c3 : 0 ≤ a1
 ·rw [if_pos c3] at H
  have c3b0 := eq_true c3; have c3b1 : decide (0 ≤ a1) = true := decide_eq_true c3; clear c3
  by_cases c4 : (a1 : Int).toNat ≤ 281474976710656
  ·rw [if_pos c4] at H
   have c4b0:=eq_true c4;have c4b1:decide ((a1:Int).toNat≤281474976710656)=true:=decide_eq_true c4;clear c4;obtain ⟨y340,hy340⟩:∃ y_:List Int,y_=(List.replicate (a1:Int).toNat 0):=⟨_,rfl⟩
   replace H:(impl_put.l0 k a0 a1 y340 (y340.length:Int) 0)=some r:=by first|(rw [hy340];with_reducible exact H)|(have H2_:=(Option.bind_some _ _).symm.trans H;rw [hy340];with_reducible exact H2_)|(have H2_:=(Option.bind_some _ _).symm.trans H;with_reducible exact H2_)|with_reducible exact H|(rw [hy340];exact H)|exact H
   have Ny340 := D hy340; clear hy340; have H' := D H; clear H; go_enter Try.func69, Try.ntmps69
   go_wp2_with (first|((with_reducible refine gate_dst (N:=8) rfl ?_);refine Kd.R_make (Kd.int .u8) _ 5 rfl (N:=8) rfl 82 _ _ rfl a1 rfl rfl Try.underlying82 (.int .u8 0) 1 info5 rfl (by decide) (by omega) 0 (ok:=fun _=>True) (okp:=fun _=>True) rfl (fun _ hk=>hk) trivial (od_ Z10) (Nat.le_trans (Nat.mul_le_mul_right _ (od_ Z10:a1.toNat≤281474976710656)) (by omega)) (Below.refl _ _) (Nat.le_refl _) ?_;intro v341 w5 ho6 hb hg_ hnew_;clear hg_ hnew_;(first|rw [← Ny340.out] at ho6|(simp only [Int.reduceToNat] at ho6;rw [← Ny340.out] at ho6));have n_:=an_ (Kd.R_lower ho6 (below_size (pB_ HB.out)))<|D (below_step (pB_ HB.out) hb);clear HB;obtain ⟨HO342,HB⟩:=n_;clear hb ho6;obtain ⟨Ao7,co7,eo7⟩:=Kd.R_slice HO342.out;subst eo7))
   go_loopg [11] k (fun kq v11 w'=>∃ (x5_1:List Int) (x11_1:Int),v11=I L x11_1∧Aside0 (impl_put.l0 kq a0 a1 x5_1 (y340.length:Int) x11_1=some r)∧Aside0 (kq≤k)∧Aside0 (Kd.R (Kd.int .u8) 5 w' w.heap.size (fun _=>True) (Y Ao7 y340.length co7) x5_1)∧Aside0 (Below w.heap.size w w'))
   case atStart => exact ⟨(y340), (0), Z11, H', ⟨Nat.le_refl _⟩, ⟨pR_ HO342.out⟩, ⟨pB_ HB.out⟩⟩
   case round =>
    clear H'
    (try clear p2);(try clear c3);(try clear c3b0);(try clear c3b1);(try clear c4);(try clear c4b0);(try clear c4b1);(try clear c6)
    obtain ⟨x5_1, x11_1, rfl, HA, HK1, HO_5, HB⟩ := hrel; have hl5_1 := (Kd.R_reads' HO_5.out).1; rw [hl5_1] at HO_5; (try simp only [hl5_1])
    cases gk with
    | zero => exact absurd HA.out (by simp [impl_put.l0])
    | succ k1 =>
     have H := HA.out; clear HA; simp only [impl_put.l0] at H
     by_cases c8 : x11_1 < (y340.length : Int)
     ·rw [if_pos c8] at H
      have c8b0:decide (x11_1 < (y340.length:Int))=true:=decide_eq_true c8;clear c8;(try (have c8h:=c8b0;simp only [hl5_1] at c8h));obtain ⟨ji9,hji9⟩:∃ j_:Int,(wrap64 (8 * (wrap64 ((wrap64 (a1 - 1)) - x11_1))))=j_:=⟨_,rfl⟩
      replace H:(if 0≤(ji9) then (if 0≤x11_1 then (if x11_1 < (x5_1.length:Int) then (impl_put.l0 k1 a0 a1 (x5_1.set (x11_1:Int).toNat ((shr .i64 a0 (ji9)) % 256)) (y340.length:Int) (wrap64 (x11_1 + 1))) else (none)) else (none)) else (none))=some r:=by first|(rw [hji9] at H;exact H)|(simp only [hji9] at H ⊢;exact H)
      have hji9w : (IntKind.i64.wrap (8 * (wrap64 ((wrap64 (a1 - 1)) - x11_1)))) = ji9 := (i64_w _).trans hji9
      by_cases c10 : 0 ≤ (ji9)
      ·rw [if_pos c10] at H
       have c10b0 := eq_true c10; have c10b1 : decide (0 ≤ (ji9)) = true := decide_eq_true c10; clear c10; obtain ⟨ji11, hji11⟩ : ∃ j_ : Int, (shr .i64 a0 (ji9)) = j_ := ⟨_, rfl⟩
       replace H:(if 0≤x11_1 then (if x11_1 < (x5_1.length:Int) then (impl_put.l0 k1 a0 a1 (x5_1.set (x11_1:Int).toNat ((ji11) % 256)) (y340.length:Int) (wrap64 (x11_1 + 1))) else (none)) else (none))=some r:=by first|(rw [hji11] at H;exact H)|(simp only [hji11] at H ⊢;exact H)
       have hji11_ : (a0 / 2 ^ min (ji9).toNat 64) = ji11 := hji11; have hji11z : (ji9) ≤ 64 → (a0 / 2 ^ (ji9).toNat) = ji11 := shr_small hji11
       by_cases c12 : 0 ≤ x11_1
       ·rw [if_pos c12] at H
        have c12b0 : decide (0 ≤ x11_1) = true := decide_eq_true c12; clear c12
        by_cases c13 : x11_1 < (x5_1.length : Int)
        ·rw [if_pos c13] at H
         have c13b0:decide (x11_1 < (x5_1.length:Int))=true:=decide_eq_true c13;clear c13;(try (have c13h:=c13b0;simp only [hl5_1] at c13h));obtain ⟨y343,hy343⟩:∃ y_:List Int,y_=(x5_1.set (x11_1:Int).toNat ((ji11) % 256)):=⟨_,rfl⟩
         replace H:(impl_put.l0 k1 a0 a1 y343 (y340.length:Int) (wrap64 (x11_1 + 1)))=some r:=by first|(rw [hy343];with_reducible exact H)|(have H2_:=(Option.bind_some _ _).symm.trans H;rw [hy343];with_reducible exact H2_)|(have H2_:=(Option.bind_some _ _).symm.trans H;with_reducible exact H2_)|with_reducible exact H|(rw [hy343];exact H)|exact H
         have Ny343:=D hy343;clear hy343;have H':=D H;clear H;have p14:0≤(x11_1:Int):=od_ Z10;have q14:(x11_1:Int) < ((x5_1.length:Int):Int):=od_ Z10;obtain ⟨go14,co14,eo14,gb14,gl14,cl14,HG14⟩:=Kd.R_form HO_5.out (by omega);(first|cases eo14|(injection eo14 with ea_ en_ ec_;(first|subst ea_|(injection ea_ with ea_;subst ea_));subst ec_;clear en_));have GB14:=D gb14;have GG14:=D HG14;clear gb14 gl14 HG14;obtain ⟨hx14_0,hf14_0⟩:=Kd.R_celln 0 HO_5.out (x11_1:Int) p14 q14;replace p14:=eq_true p14;replace q14:=eq_true q14;have HP15:=Kd.R_putg HO_5.out (x11_1:Int) ((ji11) % 256)
         go_wp2_with (first|((with_reducible refine gate_store (t:=5) (p:=24) rfl ?_);refine store_event (t:=5) (p:=24) (v:=?vo_w16) (w1:=(wr.setCell ⟨go14,(x11_1:Int).toNat,none⟩ (.int .u8 ((ji11) % 256)))) ?hg ?ho ?hn ?hr ?_;(case ho=>rfl);(case hg=>rfl);(case hn=>rfl);(case hr=>first|(go_simp;done)|(go_simp;rfl));intro w16 hw;have hg:wr.grownBy w16 (some go14):=(by rw [hw];exact HP15.2);have hp_:Kd.R (Kd.int .u8) 5 w16 w.heap.size (fun _=>True) (Y (some ⟨go14,0,none⟩) x5_1.length co7) y343:=(by rw [hw,Ny343.out];exact HP15.1);clear HP15;have n_:=an_ (hp_)<|D (by rw [hw];exact below_set (HB.out) GB14.out:Below w.heap.size w w16);clear HO_5 HB;obtain ⟨HO_5,HB⟩:=n_;clear hg hw hp_))
         (try simp only [← hl5_1]); go_roundg k1
         case measure => have := HK1.out; omega
         case rel=>exact ⟨(y343),(wrap64 (x11_1 + 1)),Z11,H',⟨by have:=HK1.out;omega⟩,⟨by (try simp only [hl5_1]);(with_reducible repeat (first|apply Kd.R_alloc|apply Kd.R_drewN|apply Kd.R_drew));exact HO_5.out⟩,⟨pB_ HB.out⟩⟩
        ·rw [if_neg c13] at H
         exact absurd H (by simp)
       ·rw [if_neg c12] at H
        exact absurd H (by simp)
      ·rw [if_neg c10] at H
       exact absurd H (by simp)
     ·rw [if_neg c8] at H
      have c8b0 : decide (x11_1 < (y340.length : Int)) = false := decide_eq_false c8; clear c8; (try (have c8h := c8b0; simp only [hl5_1] at c8h)); obtain rfl := Option.some.inj H
      go_wp2
      go_ret;exact ⟨_,er_,by (with_reducible repeat (first|apply Kd.R_alloc|apply Kd.R_drewN|apply Kd.R_drew));exact HO_5.out,pB_ HB.out⟩
  ·rw [if_neg c4] at H
   exact absurd H (by simp)
 ·rw [if_neg c3] at H
  exact absurd H (by simp)

end Go.Proofs.Ytjhgkonacdimfab.PFnExactCmdOk
