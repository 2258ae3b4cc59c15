-- by a program of this session's, over the kit's words
import Derived.Test.YtcindcakncngnaaPZFnHeapSorts
import Derived.Test.YtcindcakncngnaaPFnHeapSortsx0
import Derived.Test.YtcindcakncngnaaPFnHeapSortsx1
import Derived.Test.YtcindcakncngnaaPFnHeapSortsx2
import Derived.Test.YtcindcakncngnaaPFnHeapSortsx3
import Derived.Test.YtcindcakncngnaaPFnHeapSortsx6
import Derived.Test.YtcindcakncngnaaPFnHeapSortsx7
import Derived.Test.YtcindcakncngnaaPFnHeapSortsx8
import Derived.Test.YtcindcakncngnaaPFnHeapSortsx9
import Derived.Test.YtcindcakncngnaaPFnHeapSortsx11
namespace Go.Proofs.Ytcindcakncngnaa.PFnHeapSorts
open Go.RowKit Go.Proofs.YtcindcakncngnaaW.PrintWords Go.Proofs.YtcindcakncngnaaW.PrintLast Go.Proofs.YtcindcakncngnaaW.PrintMore Go.Proofs.YtcindcakncngnaaV Go.Proofs.Ytcindcakncngnaa.ZFnHeapSorts
open Go.Value renaming int → I, slice → Y
open Go.IntKind renaming i64 → L
open Aside0 renaming mk → D
open Option renaming bind_eq_some_iff → bs_
attribute [local go_sem] max2_int min2_int max_two min_two max_three min_three max_four min_four   -- for this text's walks alone
set_option linter.unusedVariables false
set_option linter.unusedSimpArgs false

attribute [local go_sem high] eqA32
/-! ### impl_HeapPop: function 10 -/
def impl_HeapPop.f (k : Nat) (l0_0 : List (S32)) : Option ((List (S32)) × Int × Int × Int) := (impl_HeapOk.f k l0_0).bind fun t404 => (if t404 = true then (if (l0_0.length : Int) = 0 then (some (([] : List (S32)), 0, 0, 4)) else ((impl_copyHeap.f l0_0).bind fun t405 => ((impl_Heap_remove.f k t405 0).bind fun t408 => (if 0 < (l0_0.length : Int) then (some (t408, (rd_T32 l0_0 0).f0, (rd_T32 l0_0 0).f1, 0)) else (none))))) else (some (([] : List (S32)), 0, 0, 1)))
def impl_HeapPop.T5 : Bool × List (List Nat × List Nat) := (true, [([], []), ([0], [0]), ([1, 1], [1]), ([], []), ([3], [3]), ([4], [4]), ([5], [5]), ([2, 2, 0, 1, 2], [2]), ([6, 7, 0, 1, 2, 3, 4, 5, 6, 7], [6]), ([8, 0, 1, 2, 3, 4, 5, 6, 7, 8], [])])
def impl_HeapPop.B5 : List Nat := [0, 1, 3, 0, 8, 24, 56, 7, 255, 511]
theorem impl_HeapPop.tab5 : rtab .any (opsOf Try.f10 5) = impl_HeapPop.T5 := by kernel_rfl
theorem impl_HeapPop.bits5 : waitsOk impl_HeapPop.T5.2 impl_HeapPop.B5 = true := by kernel_rfl
set_option maxHeartbeats 8000000 in
set_option maxRecDepth 100000 in
theorem impl_HeapPop.calls (k : Nat) (A0_0 : Option Addr) (c0_0 : Nat) (l0_0 r1 : List (S32)) (r2 r3 r4 : Int) (w : World) (hr0_0 : Kd.C k32 w A0_0 l0_0.length l0_0) (hc0_0 : l0_0.length ≤ c0_0) (h : impl_HeapPop.f k l0_0 = some (r1, r2, r3, r4)) :
  Calls Try.prog 10 #[.agg #[Y A0_0 l0_0.length c0_0]] w fun e w'=>∃ v0_:Value,e=.returned (.tuple #[.agg #[v0_],.agg #[I L r2,I L r3],I L r4])∧Kd.R k32 32 w' w.heap.size (fun _=>True) v0_ r1∧Below w.heap.size w w':=by
 have hu26 := Try.underlying26
 have hu32 := Try.underlying32
 have HR0_0 := D hr0_0
 have HC0_0 := D hc0_0
 clear hr0_0 hc0_0
 have HB := D (Below.refl w.heap.size w)
 have H:((impl_HeapOk.f k l0_0).bind fun Xc=>(if Xc=true then (if (l0_0.length:Int)=0 then (some (([]:List (S32)),0,0,4)) else ((impl_copyHeap.f l0_0).bind fun Xb=>((impl_Heap_remove.f k Xb 0).bind fun Oc=>(if 0 < (l0_0.length:Int) then (some (Oc,(rd_T32 l0_0 0).f0,(rd_T32 l0_0 0).f1,0)) else (none))))) else (some (([]:List (S32)),0,0,1))))=some (r1,r2,r3,r4):=h
 clear h
 obtain ⟨Xc, A20, H⟩ := bs_.mp H
 (try dsimp only at H)
 have A2 := D A20
 clear A20
 have HU3 := D H
 clear H
 go_enter Try.func10, Try.ntmps10
 go_upto_if 5 with (first|((with_reducible refine gate_dst (N:=1) rfl ?_);refine bx_ (N:=1) (cs:=#[Y A0_0 l0_0.length c0_0]) (t:=26) ?_;intro Kb hg w4 hbox hb;have n_:=an_ (below_step (pB_ HB.out) hb)<|an_ (hbox)<|an_ (bg_ hg (pB_ HB.out):w.heap.size≤Kb)<|D (bg_ hg (pB_ HB.out):w.heap.size≤Kb);clear HB;obtain ⟨HB,Ja,Of,Uf⟩:=n_;clear hb hbox hg)|((with_reducible refine gate_dst (N:=2) rfl ?_);refine bx_ (N:=2) (cs:=#[Y none 0 0]) (t:=26) ?_;intro Xa hg w5 hbox hb;have n_:=an_ (blk_below (pk_ Ja.out) hb)<|an_ (below_step (pB_ HB.out) hb)<|an_ (hbox)<|an_ (bg_ hg (pB_ HB.out):w.heap.size≤Xa)<|an_ (bg_ hg (pB_ HB.out):w.heap.size≤Xa)<|an_ (nl_ hg (pk_ Ja.out):Kb≠Xa)<|D (by rw [hg];exact Nat.ne_of_gt (blk_lt (pk_ Ja.out)):Xa≠Kb);clear Ja HB;obtain ⟨Ja,HB,Ka,Mb,Xf,Kc,Uc⟩:=n_;clear hb hbox hg)|((with_reducible refine gate_dst (N:=3) rfl ?_);refine bx_ (N:=3) (cs:=#[I L 0,I L 0]) (t:=32) ?_;intro Oa hg w6 hbox hb;have n_:=an_ (blk_below (pk_ Ja.out) hb)<|an_ (blk_below (pk_ Ka.out) hb)<|an_ (below_step (pB_ HB.out) hb)<|an_ (hbox)<|an_ (bg_ hg (pB_ HB.out):w.heap.size≤Oa)<|an_ (bg_ hg (pB_ HB.out):w.heap.size≤Oa)<|an_ (nl_ hg (pk_ Ja.out):Kb≠Oa)<|an_ (ng_ hg (pk_ Ja.out):Oa≠Kb)<|an_ (nl_ hg (pk_ Ka.out):Xa≠Oa)<|D (by rw [hg];exact Nat.ne_of_gt (blk_lt (pk_ Ka.out)):Oa≠Xa);clear Ja Ka HB;obtain ⟨Ja,Ka,HB,Ma,Ua,Jg,Ob,Mc,Jb,Ub⟩:=n_;clear hb hbox hg;(try have:=Kc.out);(try have:=Uc.out);(try have:=Ob.out);(try have:=Mc.out);have Kg:=cells1 Ja.out)|((with_reducible refine gate_callee (f:=16) rfl ?_);refine goesL_ (some 7) rfl rfl Try.func16 (by kernel_rfl) rfl #[.agg #[Y A0_0 l0_0.length c0_0]] rfl Z9 ?_;(with_reducible refine (impl_HeapOk.calls k _ _ l0_0 Xc _ ?side1 ?side2 A2.out).mono ?_);(case side1=>exact pC_ (Kd.C_below HR0_0.out HB.out));(case side2=>exact HC0_0.out);rintro e w10 ⟨rfl,hb⟩;refine ⟨_,rfl,?_⟩;have n_:=an_ (blk_below (pk_ Ja.out) hb)<|an_ (blk_below (pk_ Ka.out) hb)<|an_ (blk_below (pk_ Ma.out) hb)<|D (below_step (pB_ HB.out) hb);clear Ja Ka Ma HB;obtain ⟨Ja,Ka,Ma,HB⟩:=n_;(try clear hb)))
 have H := HU3.out
 clear HU3
 by_cases c11 : Xc = true
 ·subst c11
  rw [if_pos rfl] at H
  by_cases c12 : (l0_0.length : Int) = 0
  ·rw [if_pos c12] at H
   have c12b0:((l0_0.length:Int) == 0)=true:=beq_iff_eq.mpr c12;have c12b1:((l0_0.length:Int) != 0)=false:=bne_eq_false_iff_eq.mpr c12;clear c12;refine rw_ c12b0 ?_;simp only [Option.some.injEq,Prod.mk.injEq] at H;obtain ⟨rfl,rfl,rfl,rfl⟩:=H;(try have:=Kc.out);(try have:=Uc.out);(try have:=Ob.out);(try have:=Mc.out);have Og:=cells1 Ja.out;(try have:=Jb.out);(try have:=Ub.out);have Xg:=cells1 Ka.out;have Kh:=cells2 Ma.out
   go_wp2
   refine bodyPost_ret (results_list (rs:=[.cell 2 26,.cell 3 32,.tmp 4]) rfl (by simp) (.cell Xa 26 #[Y none 0 0] (0,0) _ rfl Z6 Try.underlying26 rfl (by kernel_rfl) (.cell Oa 32 #[I L 0,I L 0] (0,0) _ rfl Z1 Try.underlying32 rfl (by kernel_rfl) (.tmp .nil)))) rfl ?_;exact ⟨_,er_,by first|exact Kd.R_nil _ _ _ _ _|exact Kd.N_nil _ _ _ _ _|exact Kd.V_nil _ _ _ _ _|exact Kd.Q_nil _ _ _ _ _|exact Kd.S_nil _ _ _ _ _,pB_ HB.out⟩
  ·rw [if_neg c12] at H
   have c12b0 : ((l0_0.length : Int) == 0) = false := beq_eq_false_iff_ne.mpr c12; have c12b1 : ((l0_0.length : Int) != 0) = true := bne_iff_ne.mpr c12
   have c12b2 : ¬ (l0_0 = []) := fun h_ => c12 (by rw [h_]; rfl)
   refine rw_ c12b0 ?_;obtain ⟨Xb,A190,H⟩:=bs_.mp H;(try dsimp only at H);have A19:=D A190;clear A190;obtain ⟨Oc,A200,H⟩:=bs_.mp H;(try dsimp only at H);have A20:=D A200;clear A200
   by_cases c21 : 0 < (l0_0.length : Int)
   ·rw [if_pos c21] at H
    have c21b0:decide (0 < (l0_0.length:Int))=true:=decide_eq_true c21;have c21b1:decide (0 < l0_0.length)=true:=decide_eq_true (by omega);clear c21;simp only [Option.some.injEq,Prod.mk.injEq] at H;obtain ⟨rfl,rfl,rfl,rfl⟩:=H;(try have:=Kc.out);(try have:=Uc.out);(try have:=Ob.out);(try have:=Mc.out);have Xh:=cells1 Ja.out
    try go_wp2
    have n_ := an_ (blk_drew Ja.out) <| an_ (blk_drew Ka.out) <| an_ (blk_drew Ma.out) <| D (below_drew1 HB.out)
    clear Ja Ka Ma HB;obtain ⟨Ja,Ka,Ma,HB⟩:=n_;have p411:0≤(0:Int):=(by omega);have q411:0 < (l0_0.length:Int):=od_ Z22;obtain ⟨ad411,e411,hx411_0,hx411_1⟩:=at_T32 HR0_0.out 0 p411 q411;have hw411_1:=hx411_1;(try rw [show ((0:Int)).toNat=0 from rfl] at hw411_1);(try rw [show 0 * 2=0 from rfl] at hw411_1);(try rw [Addr.add_zero'] at hw411_1);have hw411_0:=hx411_0;(try rw [show ((0:Int)).toNat=0 from rfl] at hw411_0);(try rw [show 0 * 2=0 from rfl] at hw411_0);(try rw [Addr.add_zero'] at hw411_0);cases e411;have qi411:(0 < l0_0.length)=True:=eq_true (by omega);(try rw [show ((0:Int)).toNat=0 from rfl] at hx411_0);(try rw [show 0 * 2=0 from rfl] at hx411_0);(try rw [Addr.add_zero'] at hx411_0);(try rw [show ((0:Int)).toNat=0 from rfl] at hx411_1);(try rw [show 0 * 2=0 from rfl] at hx411_1);(try rw [Addr.add_zero'] at hx411_1);replace hx411_0:=rc_ HB.out hx411_0;replace hx411_1:=rc_ HB.out hx411_1;replace p411:=eq_true p411;replace q411:=eq_true q411;refine start_ (n:=10) (S:=fun w'=>w'.cell? ⟨Kb,0,none⟩=some (Y (some ad411) l0_0.length c0_0)∧w'.cell? ad411=some (I L ((rd_T32 l0_0 0).f0))∧w'.cell? ⟨ad411.block,ad411.off + 1,none⟩=some (I L ((rd_T32 l0_0 0).f1))) (ds:=[]) (bz 10 0) (by kernel_rfl) rfl (by kernel_rfl) ⟨bc_ Ja.out 0,(rc_ HB.out hw411_0:),(rc_ HB.out hw411_1:)⟩ (fun hHeld=>?_);refine with_tabW impl_HeapPop.tab5 impl_HeapPop.bits5 (fun HT_ HW_=>?_);generalize w10.drew=w25 at Ja Ka Ma HB hx411_0 hx411_1 hHeld ⊢;refine pb_ 3 ?_;refine tb_ 0 rfl rfl hHeld Z21 ?_;refine tb_ 4 rfl rfl hHeld Z21 ?_;refine pb_ 5 ?_;refine tb_ 6 rfl rfl hHeld Z21 ?_;refine oa_ 1 19 10 123 HT_ (fun K hK=>?_);refine goes_ Try.func21 (by kernel_rfl) rfl #[.agg #[Y (some ad411) l0_0.length c0_0]] (by rfl) rfl rfl Z9 ?_;with_reducible refine (impl_copyHeap.calls _ _ l0_0 Xb _ ?side1 ?side2 A19.out).mono ?_
    (case side1 => exact pC_ (Kd.C_below HR0_0.out HB.out)); (case side2 => exact HC0_0.out); rintro e w26 ⟨Ki, rfl, ho0, hb⟩; refine ⟨_, rfl, ?_⟩
    have n_:=an_ (Kd.R_lower (Kd.R_newB ho0 (pk_ Ma.out)) (below_size (pB_ HB.out)))<|an_ (blk_below (pk_ Ja.out) hb)<|an_ (blk_below (pk_ Ka.out) hb)<|an_ (blk_below (pk_ Ma.out) hb)<|D (below_step (pB_ HB.out) hb)
    clear Ja Ka Ma HB;obtain ⟨Jc,Ja,Ka,Ma,HB⟩:=n_;obtain ⟨Md,Od,eo27⟩:=Kd.R_slice Jc.out;(first|subst eo27|obtain ⟨rfl,rfl⟩:=sl_inj eo27);refine hK.out _ _ ⟨bc_ Ja.out 0,(rc_ HB.out hw411_0:),(rc_ HB.out hw411_1:)⟩ (fun hHeld=>?_);clear hK K;refine nx_ (N:=some 19) ?_;refine oa_ 2 20 10 127 HT_ (fun K hK=>?_);refine goes_ Try.func22 (by kernel_rfl) rfl #[.agg #[Y Md Xb.length Od],I L 0] (by rfl) rfl rfl Z9 ?_;with_reducible refine (impl_Heap_remove.calls k (fun k_=>some k_=(Y Md Xb.length Od:Value).ownBlock) (Y Md Xb.length Od) Xb 0 Oc w _ ?side1 ?side2 A20.out).mono ?_
    (case side1 => exact pB_ HB.out); (case side2 => exact Kd.R_tight rfl Jc.out); rintro e w28 ⟨Mi, rfl, ho0, hb, hkp⟩; refine ⟨_, rfl, ?_⟩
    have n_:=an_ (blk_kept (pk_ Ja.out) hkp (fun hs_=>(fun e_=>(Kd.R_ne Jc.out Ja.out (by decide)) e_) hs_))<|an_ (blk_kept (pk_ Ka.out) hkp (fun hs_=>(fun e_=>(Kd.R_ne Jc.out Ka.out (by decide)) e_) hs_))<|an_ (blk_kept (pk_ Ma.out) hkp (fun hs_=>(fun e_=>(Kd.R_away Jc.out (fun _ hk=>hk.2)) e_) hs_))<|an_ (Kd.R_mono (ok':=fun k_=>k_≠Oa) ho0 (fun k_ hk_=>Or.elim hk_ (fun hs_=>fun e_=>(Kd.R_away Jc.out (fun _ hk=>hk.2)) (by rw [← e_];exact hs_)) (fun hn_=>(Kd.freshB (pk_ Ma.out) k_ hn_))))<|D (hb)
    clear Ja Ka Ma HB Jc;obtain ⟨Ja,Ka,Ma,Ud,HB⟩:=n_;(try clear hkp);obtain ⟨Xd,Je,eo29⟩:=Kd.R_slice Ud.out;(first|subst eo29|obtain ⟨rfl,rfl⟩:=sl_inj eo29);refine hK.out _ _ ⟨bc_ Ja.out 0,(rc_ HB.out hw411_0:),(rc_ HB.out hw411_1:)⟩ (fun hHeld=>?_);clear hK K;refine nx_ (N:=some 20) ?_;refine one_ (i:=7) (N:=none) (bz 10 255) rfl rfl (one_of HT_.out (by kernel_rfl)) (by decide) (fun K hK=>?_);have hs30:=cells1 Ka.out;have hns30_0:=Kc.out;have hns30_2:=Ub.out;have hms30_0:=Uc.out;have hms30_2:=Jb.out;refine skip_ (w1:=?_) (by rfl) rfl ?_ ?_;rotate_left
    ·go_simp
     rfl
    refine hK.out _ _ ⟨(cF_ Kc.out (hHeld.1)),((cell_far (p:=⟨Xa,_,none⟩) (by first|exact Nat.ne_of_lt (Nat.lt_of_lt_of_le Z16 Mb.out)|(rw [add_block];exact Nat.ne_of_lt (Nat.lt_of_lt_of_le Z16 Mb.out))|(show (Addr.add _ _).block≠_;rw [add_block];exact Nat.ne_of_lt (Nat.lt_of_lt_of_le Z16 Mb.out))|(dsimp only;exact Nat.ne_of_lt (Nat.lt_of_lt_of_le Z16 Mb.out))) _).trans (hHeld.2.1)),((cell_far (p:=⟨Xa,_,none⟩) (by first|exact Nat.ne_of_lt (Nat.lt_of_lt_of_le Z17 Mb.out)|(rw [add_block];exact Nat.ne_of_lt (Nat.lt_of_lt_of_le Z17 Mb.out))|(show (Addr.add _ _).block≠_;rw [add_block];exact Nat.ne_of_lt (Nat.lt_of_lt_of_le Z17 Mb.out))|(dsimp only;exact Nat.ne_of_lt (Nat.lt_of_lt_of_le Z17 Mb.out))) _).trans (hHeld.2.2))⟩ (fun hHeld=>?_);clear hK K;refine one_ (i:=8) (N:=none) (bz 10 511) rfl rfl (one_of HT_.out (by kernel_rfl)) (by decide) (fun K hK=>?_);have hs31:w28.cell? ⟨Oa,0,none⟩=some (I L 0):=bc_ Ma.out 0;have hfs31:=blk_frozen Ma.out 0;have hns31_0:=Ob.out;have hns31_1:=Jb.out;have hms31_0:=Mc.out;have hms31_1:=Ub.out;have hs32:w28.cell? ⟨Oa,1,none⟩=some (I L 0):=bc_ Ma.out 1;have hfs32:=blk_frozen Ma.out 1;have hns32_0:=Ob.out;have hns32_1:=Jb.out;have hms32_0:=Mc.out;have hms32_1:=Ub.out;refine skip_ (w1:=?_) (by rfl) rfl ?_ ?_;rotate_left
    ·go_simp
     rfl
    refine hK.out _ _ ⟨(cF_ Ob.out (hHeld.1)),(cF_ (g:=Oa) Z27 (hHeld.2.1)),(cF_ (g:=Oa) Z28 (hHeld.2.2))⟩ (fun hHeld=>?_);clear hK K;refine pb_ 9 ?_;refine done_ (done_of HT_.out (by kernel_rfl)) ?_
    try go_wp2
    refine bodyPost_ret (results_list (rs:=[.cell 2 26,.cell 3 32,.tmp 4]) rfl (by simp) (.cell Xa 26 #[Y Xd Oc.length Je] (0,0) _ rfl Z6 Try.underlying26 rfl (by kernel_rfl) (.cell Oa 32 #[I L ((rd_T32 l0_0 0).f0),I L ((rd_T32 l0_0 0).f1)] (0,0) _ rfl (by exact pP_ Ma.out) Try.underlying32 rfl (by kernel_rfl) (.tmp .nil)))) rfl ?_;exact ⟨_,er_,by (with_reducible repeat (first|apply Kd.R_alloc|apply Kd.R_drewN|apply Kd.R_drew));exact Kd.R_mono (fr_ (fr_ (Kd.R_far (p:=⟨Xa,0,none⟩) (Kd.R_mono (Kd.R_types Ud.out Ka.out (by decide)) (fun k_ hk=>(⟨hk,hk.1⟩:_∧k_≠Oa))) (fun _ hk=>hk.1.2) (Y Xd Oc.length Je)) 0 (I L ((rd_T32 l0_0 0).f0))) 1 (I L ((rd_T32 l0_0 0).f1))) (fun _ hk=>trivial),pB_ HB.out⟩
   ·rw [if_neg c21] at H
    exact absurd H (by simp)
 ·replace c11 := Bool.eq_false_iff.mpr c11
  subst c11;rw [if_neg (show ¬ (false=true) by decide)] at H;simp only [Option.some.injEq,Prod.mk.injEq] at H;obtain ⟨rfl,rfl,rfl,rfl⟩:=H;(try have:=Uc.out);(try have:=Kc.out);(try have:=Jb.out);(try have:=Ub.out);have Oi:=cells1 Ka.out;(try have:=Mc.out);(try have:=Ob.out);have Xi:=cells2 Ma.out
  go_wp2
  refine bodyPost_ret (results_list (rs:=[.cell 2 26,.cell 3 32,.tmp 4]) rfl (by simp) (.cell Xa 26 #[Y none 0 0] (0,0) _ rfl Z6 Try.underlying26 rfl (by kernel_rfl) (.cell Oa 32 #[I L 0,I L 0] (0,0) _ rfl Z1 Try.underlying32 rfl (by kernel_rfl) (.tmp .nil)))) rfl ?_;exact ⟨_,er_,by first|exact Kd.R_nil _ _ _ _ _|exact Kd.N_nil _ _ _ _ _|exact Kd.V_nil _ _ _ _ _|exact Kd.Q_nil _ _ _ _ _|exact Kd.S_nil _ _ _ _ _,pB_ HB.out⟩

/-! ### laws_FnHeapSorts: function 3 -/
def laws_FnHeapSorts.l0 : Nat → List (S32) → Int → List (S32) → Option (Bool)
 | 0, _, _, _ => none
 | k + 1,x4,x5,x417000=>if x5 < (x4.length:Int) then ((impl_HeapPop.f k x417000).bind fun bt439=>(if bt439.2.2.2=0 then (if 0≤x5 then (if (!(bt439.2.1 == ((rd_T32 x4 x5).f0)) || (!(bt439.2.2.1 == ((rd_T32 x4 x5).f1))))=true then (some false) else ((spec_HeapOk.f k bt439.1).bind fun Me=>(if Me=true then (laws_FnHeapSorts.l0 k x4 (wrap64 (x5 + 1)) bt439.1) else (some false)))) else (none)) else (some false))) else ((impl_HeapPop.f k x417000).bind fun bt431=>(some (bt431.2.2.2 == 4)))
def laws_FnHeapSorts.f (k : Nat) (l0 : List Int) : Option (Bool) := (laws_big.f l0).bind fun Oe => (if Oe = true then (some true) else ((spec_DrawHeapPop.f k l0).bind fun Jd => ((spec_HeapOk.f k Jd).bind fun Ue => (if Ue = true then ((spec_HeapOrder.f k Jd).bind fun Ke => ((spec_DrawHeapPop.f k l0).bind fun Xe => ((impl_HeapOrder.f k Xe).bind fun Jf => ((laws_sameItems.f k Jf Ke).bind fun Kf => (if Kf = true then (laws_FnHeapSorts.l0 k Ke 0 Jd) else (some false)))))) else ((impl_HeapOrder.f k Jd).bind fun Mf => (some ((Mf.length : Int) == 0)))))))
def laws_FnHeapSorts.T13 : Bool × List (List Nat × List Nat) := (true, [([], []), ([0], [0]), ([1], [1]), ([2], [2]), ([2], [2]), ([2], [2]), ([4, 5, 2], [2, 4, 5]), ([6, 2], [2, 6]), ([3, 7, 2], [2, 3, 7]), ([2, 8], [2, 8]), ([9, 2], [9]), ([10], [10]), ([11, 10, 10], [10, 11]), ([12, 10], [10, 12]), ([10, 13], [10, 13])])
def laws_FnHeapSorts.B13 : List Nat := [0, 1, 3, 7, 7, 7, 55, 119, 255, 511, 1023, 2047, 4095, 8191, 16383]
theorem laws_FnHeapSorts.tab13 : rtab .any (opsOf Try.f3 13) = laws_FnHeapSorts.T13 := by kernel_rfl
theorem laws_FnHeapSorts.bits13 : waitsOk laws_FnHeapSorts.T13.2 laws_FnHeapSorts.B13 = true := by kernel_rfl
set_option maxHeartbeats 8000000 in
set_option maxRecDepth 100000 in
theorem laws_FnHeapSorts.calls (k : Nat) (A0 : Option Addr) (c0 : Nat) (l0 : List Int) (r : Bool) (w : World) (hr0 : Kd.C (Kd.int .u8) w A0 l0.length l0) (hc0 : l0.length ≤ c0) (hr_ : Aside0 (r = true)) (h : laws_FnHeapSorts.f k l0 = some r) :
  Calls Try.prog 3 #[Y A0 l0.length c0] w fun e w' => e = .returned (.bool r) ∧ Below w.heap.size w w' := by
 have hu26 := Try.underlying26
 have hu32 := Try.underlying32
 have HR0 := D hr0
 have HC0 := D hc0
 clear hr0 hc0
 have HB := D (Below.refl w.heap.size w)
 have H:((laws_big.f l0).bind fun Uf=>(if Uf=true then (some true) else ((spec_DrawHeapPop.f k l0).bind fun Mc=>((spec_HeapOk.f k Mc).bind fun Xf=>(if Xf=true then ((spec_HeapOrder.f k Mc).bind fun Oa=>((spec_DrawHeapPop.f k l0).bind fun Kf=>((impl_HeapOrder.f k Kf).bind fun Mf=>((laws_sameItems.f k Mf Oa).bind fun Jg=>(if Jg=true then (laws_FnHeapSorts.l0 k Oa 0 Mc) else (some false)))))) else ((impl_HeapOrder.f k Mc).bind fun Ug=>(some ((Ug.length:Int) == 0))))))))=some r:=h
 clear h
 obtain ⟨Uf, A20, H⟩ := bs_.mp H
 (try dsimp only at H)
 have A2 := D A20
 clear A20
 have HU3 := D H
 clear H
 go_enter Try.func3, Try.ntmps3
 go_upto_if 13 with (first|((with_reducible refine gate_callee (f:=4) rfl ?_);refine goesL_ (some 13) rfl rfl Try.func4 (by kernel_rfl) rfl #[Y A0 l0.length c0] rfl Z9 ?_;(with_reducible refine (laws_big.calls _ _ l0 Uf _ ?side1 ?side2 A2.out).mono ?_);(case side1=>exact pC_ HR0.out);(case side2=>exact HC0.out);rintro e w' ⟨rfl,⟨nd,rfl⟩⟩;refine ⟨_,rfl,?_⟩))
 have H := HU3.out
 clear HU3
 by_cases c4 : Uf = true
 ·subst c4
  rw [if_pos rfl] at H; obtain rfl := Option.some.inj H
  go_wp2
  go_ret; exact ⟨er_, pB_ HB.out⟩
 ·replace c4 := Bool.eq_false_iff.mpr c4
  subst c4;rw [if_neg (show ¬ (false=true) by decide)] at H;obtain ⟨Mc,A50,H⟩:=bs_.mp H;(try dsimp only at H);have A5:=D A50;clear A50;obtain ⟨Xf,A60,H⟩:=bs_.mp H;(try dsimp only at H);have A6:=D A60;clear A60;have HU7:=D H;clear H
  go_upto_if 18 with (first|((with_reducible refine gate_callee (f:=5) rfl ?_);refine goesL_ (some 15) rfl rfl Try.func5 (by kernel_rfl) rfl #[Y A0 l0.length c0] rfl Z9 ?_;(with_reducible refine (spec_DrawHeapPop.calls k _ _ l0 Mc _ ?side1 ?side2 A5.out).mono ?_);(case side1=>exact pC_ (Kd.C_below HR0.out HB.out));(case side2=>exact HC0.out);rintro e w8 ⟨Uk,rfl,ho0,hb⟩;refine ⟨_,rfl,?_⟩;have n_:=an_ (Kd.R_lower ho0 (below_size (pB_ HB.out)))<|D (below_step (pB_ HB.out) hb);clear HB;obtain ⟨Ua,HB⟩:=n_;(try clear hb);(try clear ho0))|((with_reducible refine gate_dst (N:=3) rfl ?_);refine bx_ (N:=3) (cs:=#[Y none 0 0]) (t:=26) ?_;intro Jd hg w9 hbox hb;have n_:=an_ (Kd.R_below (pR_ Ua.out) hb)<|an_ (below_step (pB_ HB.out) hb)<|an_ (hbox)<|an_ (bg_ hg (pB_ HB.out):w.heap.size≤Jd)<|D (bg_ hg (pB_ HB.out):w.heap.size≤Jd);clear Ua HB;obtain ⟨Ua,HB,Ja,Xk,Jm⟩:=n_;clear hb hbox hg;obtain ⟨Ke,Je,eo10⟩:=Kd.R_slice Ua.out;subst eo10;have Xh:=cells1 Ja.out)|((with_reducible refine gate_callee (f:=6) rfl ?_);refine goesL_ (some 17) rfl rfl Try.func6 (by kernel_rfl) rfl #[.agg #[Y Ke Mc.length Je]] rfl Z9 ?_;(with_reducible refine (spec_HeapOk.calls k _ _ Mc Xf _ ?side1 ?side2 A6.out).mono ?_);(case side1=>refine (Kd.R_reads' (e:=32) (base:=w.heap.size) (ok:=fun k_=>True) (n:=Mc.length) (c:=Je) ?_).2.2;exact (rM_ (Kd.R_types Ua.out Ja.out (by decide)) (fun _ h_=>h_.1)));(case side2=>exact (Kd.R_reads' Ua.out).2.1);rintro e w12 ⟨rfl,hb⟩;refine ⟨_,rfl,?_⟩;have n_:=an_ (Kd.R_below (rM_ (Kd.R_types Ua.out Ja.out (by decide)) (fun _ h_=>h_.1)) hb)<|an_ (blk_below (g:=Jd) (o:=.cells #[Y Ke Mc.length Je] 26 (0,0)) Z13 hb)<|D (below_step (pB_ HB.out) hb);clear Ua Ja HB;obtain ⟨Ua,Ja,HB⟩:=n_;(try clear hb)))
  have H := HU7.out; clear HU7
  by_cases c13 : Xf = true
  ·subst c13
   rw [if_pos rfl] at H;obtain ⟨Oa,A140,H⟩:=bs_.mp H;(try dsimp only at H);have A14:=D A140;clear A140;obtain ⟨Kf,A150,H⟩:=bs_.mp H;(try dsimp only at H);have A15:=D A150;clear A150;obtain ⟨Mf,A160,H⟩:=bs_.mp H;(try dsimp only at H);have A16:=D A160;clear A160;obtain ⟨Jg,A170,H⟩:=bs_.mp H;(try dsimp only at H);have A17:=D A170;clear A170;have HU18:=D H;clear H;have Ki:=cells1 Ja.out
   go_upto_if 30 with (first|((with_reducible refine gate_callee (f:=8) rfl ?_);refine goesL_ (some 24) rfl rfl Try.func8 (by kernel_rfl) rfl #[.agg #[Y Ke Mc.length Je]] rfl Z9 ?_;(with_reducible refine (spec_HeapOrder.calls k _ _ Mc Oa _ ?side1 ?side2 A14.out).mono ?_);(case side1=>exact pC_ ((Kd.R_reads' Ua.out).2.2));(case side2=>exact (Kd.R_reads' Ua.out).2.1);rintro e w20 ⟨Km,rfl,ho0,hb⟩;refine ⟨_,rfl,?_⟩;have n_:=an_ (Kd.R_elder' (pR_ Ua.out) (Kd.R_base ho0) hb)<|an_ (Kd.R_lower (nw_ ho0 (pR_ Ua.out)) (below_size (pB_ HB.out)))<|an_ (blk_below (pk_ Ja.out) hb)<|D (below_step (pB_ HB.out) hb);clear Ua Ja HB;obtain ⟨Ua,Xc,Ja,HB⟩:=n_;(try clear hb);(try clear ho0))|((with_reducible refine gate_callee (f:=5) rfl ?_);refine goesL_ (some 26) rfl rfl Try.func5 (by kernel_rfl) rfl #[Y A0 l0.length c0] rfl Z9 ?_;(with_reducible refine (spec_DrawHeapPop.calls k _ _ l0 Kf _ ?side1 ?side2 A15.out).mono ?_);(case side1=>exact pC_ (Kd.C_below HR0.out HB.out));(case side2=>exact HC0.out);rintro e w21 ⟨Mm,rfl,ho0,hb⟩;refine ⟨_,rfl,?_⟩;have n_:=an_ (Kd.R_elder' (pR_ Ua.out) (Kd.R_base ho0) hb)<|an_ (Kd.R_elder' (pR_ Xc.out) (Kd.R_base ho0) hb)<|an_ (Kd.R_lower (nw_ (nw_ ho0 (pR_ Ua.out)) (pR_ Xc.out)) (below_size (pB_ HB.out)))<|an_ (blk_below (pk_ Ja.out) hb)<|D (below_step (pB_ HB.out) hb);clear Ua Xc Ja HB;obtain ⟨Ua,Xc,Me,Ja,HB⟩:=n_;(try clear hb);(try clear ho0);obtain ⟨Oi,Ui,eo22⟩:=Kd.R_slice Me.out;subst eo22)|((with_reducible refine gate_callee (f:=7) rfl ?_);refine goesL_ (some 27) rfl rfl Try.func7 (by kernel_rfl) rfl #[.agg #[Y Oi Kf.length Ui]] rfl Z9 ?_;(with_reducible refine (impl_HeapOrder.calls k _ _ Kf Mf _ ?side1 ?side2 A16.out).mono ?_);(case side1=>exact pC_ ((Kd.R_reads' Me.out).2.2));(case side2=>exact (Kd.R_reads' Me.out).2.1);rintro e w23 ⟨Om,rfl,ho0,hb⟩;refine ⟨_,rfl,?_⟩;have n_:=an_ (Kd.R_elder' (pR_ Ua.out) (Kd.R_base ho0) hb)<|an_ (Kd.R_elder' (pR_ Xc.out) (Kd.R_base ho0) hb)<|an_ (Kd.R_elder' (pR_ Me.out) (Kd.R_base ho0) hb)<|an_ (Kd.R_lower (nw_ (nw_ (nw_ ho0 (pR_ Ua.out)) (pR_ Xc.out)) (pR_ Me.out)) (below_size (pB_ HB.out)))<|an_ (blk_below (pk_ Ja.out) hb)<|D (below_step (pB_ HB.out) hb);clear Ua Xc Me Ja HB;obtain ⟨Ua,Xc,Me,Xg,Ja,HB⟩:=n_;(try clear hb);(try clear ho0);obtain ⟨Xi,Jj,eo24⟩:=Kd.R_slice Xg.out;subst eo24;obtain ⟨Ud,Xd,eo25⟩:=Kd.R_slice Xc.out;subst eo25)|((with_reducible refine gate_callee (f:=9) rfl ?_);refine goesL_ (some 29) rfl rfl Try.func9 (by kernel_rfl) rfl #[Y Xi Mf.length Jj,Y Ud Oa.length Xd] rfl Z9 ?_;(with_reducible refine (laws_sameItems.calls k _ _ Mf _ _ Oa Jg _ ?side1 ?side2 ?side3 ?side4 A17.out).mono ?_);(case side1=>exact pC_ ((Kd.R_reads' Xg.out).2.2));(case side2=>exact (Kd.R_reads' Xg.out).2.1);(case side3=>exact pC_ ((Kd.R_reads' Xc.out).2.2));(case side4=>exact (Kd.R_reads' Xc.out).2.1);rintro e w' ⟨rfl,⟨nd,rfl⟩⟩;refine ⟨_,rfl,?_⟩))
   have H := HU18.out; clear HU18
   by_cases c26 : Jg = true
   ·subst c26
    rw [if_pos rfl] at H; have H' := D H; clear H
    go_wp2
    go_loopg [5] k (fun kq v5 w'=>∃ (x5_1:Int) (Oc:List (S32)) (u417000:Value),v5=I L x5_1∧Aside0 (laws_FnHeapSorts.l0 kq Oa x5_1 Oc=some r)∧Aside0 (kq≤k)∧Aside0 (Kd.R k32 32 w' w.heap.size (fun k_=>some k_≠(u417000:Value).ownBlock) (Y Ud Oa.length Xd) Oa)∧Aside0 (Kd.R k32 32 w' w.heap.size (fun k_=>some k_≠((Y Ud Oa.length Xd):Value).ownBlock) u417000 Oc)∧Aside0 (w'.heap[Jd]?=some (.cells #[u417000] 26 (0,0)))∧Aside0 (Below w.heap.size w w'))
    case atStart=>exact ⟨(0),(Mc),(Y Ke Mc.length Je),Z23,H',⟨Nat.le_refl _⟩,⟨pR_ (Kd.R_mono Xc.out (fun _ hk=>hk.1.1.2))⟩,⟨pR_ (Kd.R_mono Ua.out (fun _ hk=>hk.1.1.2))⟩,⟨pk_ Ja.out⟩,⟨pB_ HB.out⟩⟩
    case round =>
     clear H'
     (try clear c1);(try clear c2);(try clear p2);(try clear c3);(try clear c4);(try clear c5);(try clear c6);(try clear c7);(try clear c8);(try clear c9);(try clear c13);(try clear c26);(try clear Xh);(try clear Ki)
     obtain ⟨x5_1, Oc, u417000, rfl, HA, HK1, Kb, Ma, Ja, HB⟩ := hrel
     cases gk with
     | zero => exact absurd HA.out (by simp [laws_FnHeapSorts.l0])
     | succ k1 =>
      have H := HA.out; clear HA; simp only [laws_FnHeapSorts.l0] at H
      by_cases c27 : x5_1 < (Oa.length : Int)
      ·rw [if_pos c27] at H
       have c27b0:decide (x5_1 < (Oa.length:Int))=true:=decide_eq_true c27;clear c27;refine rw_ c27b0 ?_;obtain ⟨⟨Xa,Kc,Uc,Jf⟩,A280,H⟩:=bs_.mp H;(try dsimp only at H);have A28:=D A280;clear A280
       by_cases c29 : Jf = 0
       ·rw [if_pos c29] at H
        have c29b0 : (Jf == 0) = true := beq_iff_eq.mpr c29; have c29b1 : (Jf != 0) = false := bne_eq_false_iff_eq.mpr c29; clear c29
        by_cases c30 : 0 ≤ x5_1
        ·rw [if_pos c30] at H
         have c30b0 : decide (0 ≤ x5_1) = true := decide_eq_true c30; clear c30
         by_cases c31 : (!(Kc == ((rd_T32 Oa x5_1).f0)) || (!(Uc == ((rd_T32 Oa x5_1).f1)))) = true
         ·rw [if_pos c31] at H
          have c31b0 : (!(Kc == ((rd_T32 Oa x5_1).f0)) || (!(Uc == ((rd_T32 Oa x5_1).f1)))) = true := c31; clear c31; exact absurd (Option.some.inj H) Z26
         ·rw [if_neg c31] at H
          have c31b0 : (!(Kc == ((rd_T32 Oa x5_1).f0)) || (!(Uc == ((rd_T32 Oa x5_1).f1)))) = false := by simpa using c31
          clear c31;obtain ⟨Mh,A320,H⟩:=bs_.mp H;(try dsimp only at H);have A32:=D A320;clear A320;have HU33:=D H;clear H;have Um:=cells1 Ja.out;obtain ⟨Md,Od,eo35⟩:=Kd.R_slice Ma.out;subst eo35
          try go_wp2_with (first|((with_reducible refine gate_callee (f:=10) rfl ?_);refine goesL_ (some 39) rfl rfl Try.func10 (by kernel_rfl) rfl #[.agg #[Y Md Oc.length Od]] rfl Z9 ?_;(with_reducible refine (impl_HeapPop.calls k1 _ _ Oc Xa Kc Uc Jf _ ?side1 ?side2 A28.out).mono ?_);(case side1=>exact pC_ ((Kd.R_reads' Ma.out).2.2));(case side2=>exact (Kd.R_reads' Ma.out).2.1);rintro e w36 ⟨Jn,rfl,ho0,hb⟩;refine ⟨_,rfl,?_⟩;have n_:=an_ (Kd.R_elder' (pR_ Kb.out) (Kd.R_base ho0) hb)<|an_ (Kd.R_elder' (pR_ Ma.out) (Kd.R_base ho0) hb)<|an_ (Kd.R_lower (nw_ (nw_ ho0 (pR_ Kb.out)) (pR_ Ma.out)) (below_size (pB_ HB.out)))<|an_ (blk_below (pk_ Ja.out) hb)<|D (below_step (pB_ HB.out) hb);clear Kb Ma Ja HB;obtain ⟨Kb,Ma,Ub,Ja,HB⟩:=n_;(try clear hb);(try clear ho0))|((with_reducible refine gate_dst (N:=6) rfl ?_);refine bx_ (N:=6) (cs:=#[Y none 0 0]) (t:=26) ?_;intro Xb hg w37 hbox hb;have n_:=an_ (Kd.R_below (pR_ Kb.out) hb)<|an_ (Kd.R_below (pR_ Ma.out) hb)<|an_ (Kd.R_below (pR_ Ub.out) hb)<|an_ (blk_below (pk_ Ja.out) hb)<|an_ (below_step (pB_ HB.out) hb)<|an_ (hbox)<|an_ (bg_ hg (pB_ HB.out):w.heap.size≤Xb)<|an_ (bg_ hg (pB_ HB.out):w.heap.size≤Xb)<|an_ (nl_ hg (pk_ Ja.out):Jd≠Xb)<|D (by rw [hg];exact Nat.ne_of_gt (blk_lt (pk_ Ja.out)):Xb≠Jd);clear Kb Ma Ub Ja HB;obtain ⟨Kb,Ma,Ub,Ja,HB,Jb,Kn,Mn,Jh,Oh⟩:=n_;clear hb hbox hg)|((with_reducible refine gate_dst (N:=7) rfl ?_);refine bx_ (N:=7) (cs:=#[I L 0,I L 0]) (t:=32) ?_;intro Ka hg w38 hbox hb;have n_:=an_ (Kd.R_below (Kd.R_elderB (pR_ Kb.out) Ka (Nat.le_of_eq hg.symm)) hb)<|an_ (Kd.R_below (Kd.R_elderB (pR_ Ma.out) Ka (Nat.le_of_eq hg.symm)) hb)<|an_ (Kd.R_below (Kd.R_elderB (pR_ Ub.out) Ka (Nat.le_of_eq hg.symm)) hb)<|an_ (blk_below (pk_ Ja.out) hb)<|an_ (blk_below (pk_ Jb.out) hb)<|an_ (below_step (pB_ HB.out) hb)<|an_ (hbox)<|an_ (bg_ hg (pB_ HB.out):w.heap.size≤Ka)<|an_ (bg_ hg (pB_ HB.out):w.heap.size≤Ka)<|an_ (nl_ hg (pk_ Ja.out):Jd≠Ka)<|an_ (ng_ hg (pk_ Ja.out):Ka≠Jd)<|an_ (nl_ hg (pk_ Jb.out):Xb≠Ka)<|D (by rw [hg];exact Nat.ne_of_gt (blk_lt (pk_ Jb.out)):Ka≠Xb);clear Kb Ma Ub Ja Jb HB;obtain ⟨Kb,Ma,Ub,Ja,Jb,HB,Jc,On,Un,Kg,Uh,Mg,Kh⟩:=n_;clear hb hbox hg;obtain ⟨Mb,Ob,eo39⟩:=Kd.R_slice Ub.out;subst eo39;(try have:=Oh.out);(try have:=Jh.out);(try have:=Mg.out);(try have:=Kh.out);have Xn:=cells1 Jb.out;(try have:=Uh.out);(try have:=Kg.out);have Ko:=cells2 Jc.out))
          obtain ⟨w45,hq_⟩:∃ W_,W_=(((w38.setCell ⟨Xb,0,none⟩ (Y Mb Xa.length Ob)).setCell ⟨Ka,0,none⟩ (I L Kc)).setCell ⟨Ka,1,none⟩ (I L Uc)):=⟨_,rfl⟩;have n0_:Aside0 (Kd.R k32 32 w45 w.heap.size (fun k_=>some k_≠(Y Md Oc.length Od:Value).ownBlock∧some k_≠(Y Mb Xa.length Ob:Value).ownBlock∧k_≠Ka) (Y Ud Oa.length Xd) Oa):=⟨by rw [hq_];exact rM_ (Kd.R_far (p:=⟨Xb,0,none⟩) (Kd.R_mono (Kd.R_types Kb.out Jb.out (by decide)) (fun k_ hk=>(⟨hk,hk.1.2⟩:_∧k_≠Ka))) (fun _ hk=>hk.1.2) (Y Mb Xa.length Ob)) (fun _ hk=>⟨hk.1.1.1.1,⟨hk.1.1.1.2,hk.1.1.2⟩⟩)⟩;have n1_:Aside0 (Kd.R k32 32 w45 w.heap.size (fun k_=>some k_≠(Y Ud Oa.length Xd:Value).ownBlock∧some k_≠(Y Mb Xa.length Ob:Value).ownBlock∧k_≠Ka) (Y Md Oc.length Od) Oc):=⟨by rw [hq_];exact rM_ (Kd.R_far (p:=⟨Xb,0,none⟩) (Kd.R_mono (Kd.R_types Ma.out Jb.out (by decide)) (fun k_ hk=>(⟨hk,hk.1.2⟩:_∧k_≠Ka))) (fun _ hk=>hk.1.2) (Y Mb Xa.length Ob)) (fun _ hk=>⟨hk.1.1.1.1,⟨hk.1.1.1.2,hk.1.1.2⟩⟩)⟩;have n2_:Aside0 (Kd.R k32 32 w45 w.heap.size (fun k_=>some k_≠(Y Ud Oa.length Xd:Value).ownBlock∧some k_≠(Y Md Oc.length Od:Value).ownBlock∧k_≠Ka) (Y Mb Xa.length Ob) Xa):=⟨by rw [hq_];exact rM_ (Kd.R_far (p:=⟨Xb,0,none⟩) (Kd.R_mono (Kd.R_types Ub.out Jb.out (by decide)) (fun k_ hk=>(⟨hk,hk.1.2⟩:_∧k_≠Ka))) (fun _ hk=>hk.1.2) (Y Mb Xa.length Ob)) (fun _ hk=>⟨hk.1.1.1.1.2,⟨hk.1.1.1.2,hk.1.1.2⟩⟩)⟩;have n3_:Aside0 (w45.heap[Jd]?=some (.cells #[Y Md Oc.length Od] 26 (0,0))):=⟨by rw [hq_];exact pP_ Ja.out⟩;have n4_:Aside0 (w45.heap[Xb]?=some (.cells #[Y Mb Xa.length Ob] 26 (0,0))):=⟨by rw [hq_];exact pP_ Jb.out⟩;have n5_:Aside0 (w45.heap[Ka]?=some (.cells #[I L Kc,I L Uc] 32 (0,0))):=⟨by rw [hq_];exact pP_ Jc.out⟩;have n6_:Aside0 (Below w.heap.size w w45):=⟨by rw [hq_];exact pB_ HB.out⟩;(try clear Kb);(try clear Ma);(try clear Ub);(try clear Ja);(try clear Jb);(try clear Jc);(try clear HB);(try rw [←hq_]);clear hq_;have Kb:=n0_;have Ma:=n1_;have Ub:=n2_;have Ja:=n3_;have Jb:=n4_;have Jc:=n5_;have HB:=n6_;clear n0_ n1_ n2_ n3_ n4_ n5_ n6_;(try (rw [drewN_self w45];generalize hq_:World.drewN w45 _=w45;have n0_:Aside0 (Kd.R k32 32 w45 w.heap.size (fun k_=>some k_≠(Y Ud Oa.length Xd:Value).ownBlock∧some k_≠(Y Md Oc.length Od:Value).ownBlock∧k_≠Ka) (Y Mb Xa.length Ob) Xa):=⟨by rw [← hq_];exact (pR_ Ub.out)⟩;have n1_:Aside0 (Kd.R k32 32 w45 w.heap.size (fun k_=>some k_≠(Y Mb Xa.length Ob:Value).ownBlock∧some k_≠(Y Md Oc.length Od:Value).ownBlock∧k_≠Ka) (Y Ud Oa.length Xd) Oa):=⟨by rw [← hq_];exact (pR_ (Kd.R_mono Kb.out (fun _ hk=>⟨hk.2.1,⟨hk.1,hk.2.2⟩⟩)))⟩;have n2_:Aside0 (Kd.R k32 32 w45 w.heap.size (fun k_=>some k_≠(Y Mb Xa.length Ob:Value).ownBlock∧some k_≠(Y Ud Oa.length Xd:Value).ownBlock∧k_≠Ka) (Y Md Oc.length Od) Oc):=⟨by rw [← hq_];exact (pR_ (Kd.R_mono Ma.out (fun _ hk=>⟨hk.2.1,⟨hk.1,hk.2.2⟩⟩)))⟩;have n3_:Aside0 (w45.heap[Jd]?=some (.cells #[Y Md Oc.length Od] 26 (0,0))):=⟨by rw [← hq_];exact (pk_ Ja.out)⟩;have n4_:Aside0 (w45.heap[Xb]?=some (.cells #[Y Mb Xa.length Ob] 26 (0,0))):=⟨by rw [← hq_];exact (pk_ Jb.out)⟩;have n5_:Aside0 (w45.heap[Ka]?=some (.cells #[I L Kc,I L Uc] 32 (0,0))):=⟨by rw [← hq_];exact (pk_ Jc.out)⟩;have n6_:Aside0 (Below w.heap.size w w45):=⟨by rw [← hq_];exact (pB_ HB.out)⟩;clear Ub Kb Ma Ja Jb Jc HB hq_;have Ub:=n0_;have Kb:=n1_;have Ma:=n2_;have Ja:=n3_;have Jb:=n4_;have Jc:=n5_;have HB:=n6_;clear n0_ n1_ n2_ n3_ n4_ n5_ n6_))
          have n_:=an_ (Kd.R_drew Kb.out)<|an_ (Kd.R_drew Ma.out)<|an_ (Kd.R_drew Ub.out)<|an_ (blk_drew Ja.out)<|an_ (blk_drew Jb.out)<|an_ (blk_drew Jc.out)<|D (below_drew1 HB.out)
          clear Kb Ma Ub Ja Jb Jc HB;obtain ⟨Kb,Ma,Ub,Ja,Jb,Jc,HB⟩:=n_;have p447:0≤(x5_1:Int):=od_ Z22;have q447:x5_1 < (Oa.length:Int):=od_ Z22;obtain ⟨ad447,e447,hx447_0,hx447_1⟩:=at_T32 (Kd.R_reads' Kb.out).2.2 x5_1 p447 q447;cases e447;replace p447:=eq_true p447;replace q447:=eq_true q447;refine start_ (n:=15) (S:=fun w'=>w'.cell? ⟨Ka,0,none⟩=some (I L Kc)∧w'.cell? ⟨Ka,1,none⟩=some (I L Uc)∧w'.cell? ⟨Xb,0,none⟩=some (Y Mb Xa.length Ob)∧w'.cell? (ad447.add ((x5_1).toNat * 2))=some (I L ((rd_T32 Oa x5_1).f0))∧w'.cell? ⟨(ad447.add ((x5_1).toNat * 2)).block,(ad447.add ((x5_1).toNat * 2)).off + 1,none⟩=some (I L ((rd_T32 Oa x5_1).f1))) (ds:=[]) (bz 15 0) (by kernel_rfl) rfl (by kernel_rfl) (bk2_ Jc.out ⟨bc_ Jb.out 0,hx447_0,hx447_1⟩) (fun hHeld=>?_);refine with_tabW laws_FnHeapSorts.tab13 laws_FnHeapSorts.bits13 (fun HT_ HW_=>?_);generalize w45.drew=w46 at Kb Ma Ub Ja Jb Jc HB hx447_0 hx447_1 hHeld ⊢;refine pb_ 0 ?_;refine pb_ 1 ?_;refine pb_ 2 ?_;refine pb_ 4 ?_;refine pb_ 5 ?_;refine pb_ 6 ?_;refine tb_ 3 rfl rfl hHeld Z20 ?_;refine tb_ 7 rfl rfl hHeld Z20 ?_;refine pb_ 8 ?_;refine pb_ 9 ?_;refine pb_ 10 ?_;refine tb_ 11 rfl rfl hHeld Z20 ?_;refine oa_ 12 55 15 8191 HT_ (fun K hK=>?_);refine goes_ Try.func6 (by kernel_rfl) rfl #[.agg #[Y Mb Xa.length Ob]] (by rfl) rfl rfl Z9 ?_;with_reducible refine (spec_HeapOk.calls k1 _ _ Xa Mh _ ?side1 ?side2 A32.out).mono ?_
          (case side1=>exact pC_ ((Kd.R_reads' Ub.out).2.2));(case side2=>exact (Kd.R_reads' Ub.out).2.1);rintro e w47 ⟨rfl,hb⟩;have HS3_:=(hb.cell (World.block_lt_of_cell? _ _ (hHeld.2.2.2.1))).trans (hHeld.2.2.2.1);have HS4_:=(hb.cell (World.block_lt_of_cell? _ _ (hHeld.2.2.2.2))).trans (hHeld.2.2.2.2);refine ⟨_,rfl,?_⟩
          have n_:=an_ (Kd.R_below (pR_ Kb.out) hb)<|an_ (Kd.R_below (pR_ Ma.out) hb)<|an_ (Kd.R_below (pR_ Ub.out) hb)<|an_ (blk_below (pk_ Ja.out) hb)<|an_ (blk_below (pk_ Jb.out) hb)<|an_ (blk_below (pk_ Jc.out) hb)<|D (below_step (pB_ HB.out) hb)
          clear Kb Ma Ub Ja Jb Jc HB;obtain ⟨Kb,Ma,Ub,Ja,Jb,Jc,HB⟩:=n_;refine hK.out _ _ (bk2_ Jc.out ⟨bc_ Jb.out 0,HS3_,HS4_⟩) (fun hHeld=>?_);clear hK K;refine nx_ (N:=some 55) ?_;refine pb_ 13 ?_;refine pb_ 14 ?_;refine done_ (done_of HT_.out (by kernel_rfl)) ?_
          go_upto_if 57 with (fail)
          have H := HU33.out; clear HU33
          by_cases c48 : Mh = true
          ·subst c48
           rw [if_pos rfl] at H;have H':=D H;clear H;(try have:=Oh.out);(try have:=Jh.out);(try have:=Mg.out);(try have:=Kh.out);have Xo:=cells1 Jb.out;(try have:=Kg.out);(try have:=Uh.out);have Kp:=cells1 Ja.out
           go_wp2
           go_roundg k1
           case measure => have := HK1.out; omega
           case rel=>exact ⟨(wrap64 (x5_1 + 1)),(Xa),(Y Mb Xa.length Ob),Z23,H',⟨by have:=HK1.out;omega⟩,⟨rM_ (Kd.R_types Kb.out Ja.out (by decide)) (fun _ hk=>hk.1.2.1)⟩,⟨rM_ (Kd.R_types Ub.out Ja.out (by decide)) (fun _ hk=>hk.1.1)⟩,⟨pP_ Ja.out⟩,⟨pB_ HB.out⟩⟩
          ·replace c48 := Bool.eq_false_iff.mpr c48
           subst c48; rw [if_neg (show ¬ (false = true) by decide)] at H; exact absurd (Option.some.inj H) Z26
        ·rw [if_neg c30] at H
         exact absurd H (by simp)
       ·rw [if_neg c29] at H
        have c29b0 : (Jf == 0) = false := beq_eq_false_iff_ne.mpr c29; have c29b1 : (Jf != 0) = true := bne_iff_ne.mpr c29; exact absurd (Option.some.inj H) Z26
      ·rw [if_neg c27] at H
       have c27b0:decide (x5_1 < (Oa.length:Int))=false:=decide_eq_false c27;clear c27;refine rw_ c27b0 ?_;obtain ⟨⟨Kj,Mj,Oj,Uj⟩,A540,H⟩:=bs_.mp H;(try dsimp only at H);have A54:=D A540;clear A540;obtain rfl:=Option.some.inj H;have Op:=cells1 Ja.out;obtain ⟨Xj,Jk,eo56⟩:=Kd.R_slice Ma.out;subst eo56
       go_wp2_with (first|((with_reducible refine gate_callee (f:=10) rfl ?_);refine goesL_ (some 61) rfl rfl Try.func10 (by kernel_rfl) rfl #[.agg #[Y Xj Oc.length Jk]] rfl Z9 ?_;(with_reducible refine (impl_HeapPop.calls k1 _ _ Oc Kj Mj Oj Uj _ ?side1 ?side2 A54.out).mono ?_);(case side1=>exact pC_ ((Kd.R_reads' Ma.out).2.2));(case side2=>exact (Kd.R_reads' Ma.out).2.1);rintro e w57 ⟨Xp,rfl,ho0,hb⟩;refine ⟨_,rfl,?_⟩;have n_:=an_ (Kd.R_elder' (pR_ Ma.out) (Kd.R_base ho0) hb)<|an_ (Kd.R_lower (nw_ ho0 (pR_ Ma.out)) (below_size (pB_ HB.out)))<|D (below_step (pB_ HB.out) hb);clear Ma HB;obtain ⟨Ma,Oe,HB⟩:=n_;(try clear hb);(try clear ho0))|((with_reducible refine gate_dst (N:=9) rfl ?_);refine bx_ (N:=9) (cs:=#[Y none 0 0]) (t:=26) ?_;intro Of hg w58 hbox hb;have n_:=an_ (Kd.R_below (pR_ Oe.out) hb)<|an_ (below_step (pB_ HB.out) hb)<|an_ (hbox)<|an_ (bg_ hg (pB_ HB.out):w.heap.size≤Of)<|D (bg_ hg (pB_ HB.out):w.heap.size≤Of);clear Oe HB;obtain ⟨Oe,HB,Ue,Jq,Kq⟩:=n_;clear hb hbox hg)|((with_reducible refine gate_dst (N:=10) rfl ?_);refine bx_ (N:=10) (cs:=#[I L 0,I L 0]) (t:=32) ?_;intro Xe hg w59 hbox hb;have n_:=an_ (Kd.R_below (Kd.R_elderB (pR_ Oe.out) Xe (Nat.le_of_eq hg.symm)) hb)<|an_ (blk_below (pk_ Ue.out) hb)<|an_ (below_step (pB_ HB.out) hb)<|an_ (hbox)<|an_ (bg_ hg (pB_ HB.out):w.heap.size≤Xe)<|an_ (bg_ hg (pB_ HB.out):w.heap.size≤Xe)<|an_ (nl_ hg (pk_ Ue.out):Of≠Xe)<|D (by rw [hg];exact Nat.ne_of_gt (blk_lt (pk_ Ue.out)):Xe≠Of);clear Oe Ue HB;obtain ⟨Oe,Ue,HB,Og,Mq,Oq,Kk,Mk⟩:=n_;clear hb hbox hg;obtain ⟨Uq,Xq,eo60⟩:=Kd.R_slice Oe.out;subst eo60;(try have:=Kk.out);(try have:=Mk.out);have Jr:=cells1 Ue.out;have Mr:=cells2 Og.out))
       go_ret; exact ⟨er_, pB_ HB.out⟩
   ·replace c26 := Bool.eq_false_iff.mpr c26
    subst c26; rw [if_neg (show ¬ (false = true) by decide)] at H; exact absurd (Option.some.inj H) Z26
  ·replace c13 := Bool.eq_false_iff.mpr c13
   subst c13;rw [if_neg (show ¬ (false=true) by decide)] at H;obtain ⟨Ug,A640,H⟩:=bs_.mp H;(try dsimp only at H);have A64:=D A640;clear A640;obtain rfl:=Option.some.inj H;have Js:=cells1 Ja.out
   go_wp2_with (first|((with_reducible refine gate_callee (f:=7) rfl ?_);refine goesL_ (some 20) rfl rfl Try.func7 (by kernel_rfl) rfl #[.agg #[Y Ke Mc.length Je]] rfl Z9 ?_;(with_reducible refine (impl_HeapOrder.calls k _ _ Mc Ug _ ?side1 ?side2 A64.out).mono ?_);(case side1=>exact pC_ ((Kd.R_reads' Ua.out).2.2));(case side2=>exact (Kd.R_reads' Ua.out).2.1);rintro e w66 ⟨Ms,rfl,ho0,hb⟩;refine ⟨_,rfl,?_⟩;have n_:=an_ (Kd.R_elder' (pR_ Ua.out) (Kd.R_base ho0) hb)<|an_ (Kd.R_lower (nw_ ho0 (pR_ Ua.out)) (below_size (pB_ HB.out)))<|D (below_step (pB_ HB.out) hb);clear Ua HB;obtain ⟨Ua,Ok,HB⟩:=n_;(try clear hb);(try clear ho0);obtain ⟨Os,Us,eo67⟩:=Kd.R_slice Ok.out;subst eo67))
   go_ret; exact ⟨er_, pB_ HB.out⟩

/-- THE ONE PURE STATEMENT of laws_FnHeapSorts: yours. -/
def laws_FnHeapSorts.Pure : Prop := ∀ (l0 : List Int), l0.length ≤ maxLen → l0.length * 1 ≤ 140737488351232 → (∀ x ∈ l0, (Lit.int .u8 x).wf = true) → ∃ k, laws_FnHeapSorts.f k l0 = some true
theorem laws_FnHeapSorts.walk (P : laws_FnHeapSorts.Pure) (a0 : Option Addr) (len0 cap0 : Nat) (z0 : List Int) (w : World) (w0 : (a0 = none ∧ len0 = 0 ∧ cap0 = 0 ∧ z0 = []) ∨ ∃ x, a0 = some x ∧ len0 ≤ cap0 ∧ cap0 ≤ maxLen ∧ z0.length = cap0 ∧ (∀ i, i < z0.length → w.cell? (x.add i) = some (.int .u8 (z0.getD i 0))) ∧ ∀ n ∈ z0, (Lit.int .u8 n).wf = true) (y0 : len0 * 1 ≤ 140737488351232) :
  Calls Try.prog 3 #[Y a0 len0 cap0] w fun e w' => e = .returned (.bool true) ∧ Below w.heap.size w w' := by
 obtain ⟨l0, rfl, hr0, hm0, hw0, hc0⟩ := ReadsInt.ofRowC w0
 obtain ⟨k, h⟩ := P l0 hm0 y0 hw0
 refine (laws_FnHeapSorts.calls k _ _ l0 true w (Kd.C_of_reads (d := (0 : Int)) (h1 := fun _ => rfl) hr0) hc0 ⟨rfl⟩ h).mono ?_
 rintro e w' ⟨rfl, hd⟩
 exact ⟨rfl, hd⟩

end Go.Proofs.Ytcindcakncngnaa.PFnHeapSorts
