-- by a program of this session's, over the kit's words
import Derived.Test.YtjhgkonacdimfaaPZFnTurnedKey
import Derived.Test.YtjhgkonacdimfaaPFnTurnedKeyx0
import Derived.Test.YtjhgkonacdimfaaPFnTurnedKeyx4
namespace Go.Proofs.Ytjhgkonacdimfaa.PFnTurnedKey
open Go.RowKit Go.Proofs.YtjhgkonacdimfaaW.PrintWords Go.Proofs.YtjhgkonacdimfaaW.PrintLast Go.Proofs.YtjhgkonacdimfaaW.PrintMore Go.Proofs.YtjhgkonacdimfaaV Go.Proofs.Ytjhgkonacdimfaa.ZFnTurnedKey
open Go.Value renaming int → I, slice → Y
open Go.IntKind renaming i64 → L
open Aside0 renaming mk → D
open Option renaming bind_eq_some_iff → bs_
attribute [local go_sem] max2_int min2_int max_two min_two max_three min_three max_four min_four   -- for this text's walks alone
set_option linter.unusedVariables false
set_option linter.unusedSimpArgs false

/-! ### spec_AddrBytes: function 50 -/
def spec_AddrBytes.f (a0_0 a0_1 a0_2 a0_3 a0_4 : Int) : Option (List Int) := (spec_AddrOk.f a0_0 a0_1 a0_2 a0_3 a0_4).bind fun t136 => (if t136 = true then (if a0_0 = 4 then ((spec_Put32.f a0_4).bind fun t137 => (some t137)) else ((spec_Put32.f a0_1).bind fun t140 => ((spec_Put32.f a0_2).bind fun t143 => (if t140.length + t143.length < 140737488355328 then ((some (t140 ++ t143 : List Int)).bind fun y146 => ((spec_Put32.f a0_3).bind fun t149 => (if y146.length + t149.length < 140737488355328 then ((some (y146 ++ t149 : List Int)).bind fun y152 => ((spec_Put32.f a0_4).bind fun t155 => (if y152.length + t155.length < 140737488355328 then (some (y152 ++ t155)) else (none)))) else (none)))) else (none))))) else (some ([] : List Int)))
def spec_AddrBytes.T5 : Bool × List (List Nat × List Nat) := (true, [([], []), ([0], [0]), ([1], [1]), ([], []), ([3], [3]), ([4, 2], [4]), ([2, 5, 5], [2, 5]), ([6, 6, 0, 1, 2, 3, 4, 5, 6], [6])])
def spec_AddrBytes.B5 : List Nat := [0, 1, 3, 0, 8, 31, 63, 127]
theorem spec_AddrBytes.tab5 : rtab .any (opsOf Try.f50 5) = spec_AddrBytes.T5 := by kernel_rfl
theorem spec_AddrBytes.bits5 : waitsOk spec_AddrBytes.T5.2 spec_AddrBytes.B5 = true := by kernel_rfl
def spec_AddrBytes.T6 : Bool × List (List Nat × List Nat) := (true, [([], []), ([], []), ([1], [1]), ([2], [2]), ([0, 3, 3], [0, 3]), ([], []), ([5], [5]), ([6, 4], [6]), ([4, 7, 7], [4, 7]), ([8, 8, 0, 1, 2, 3, 4, 5, 6, 7, 8], [8])])
def spec_AddrBytes.B6 : List Nat := [0, 0, 2, 6, 15, 0, 32, 127, 255, 511]
theorem spec_AddrBytes.tab6 : rtab .any (opsOf Try.f50 6) = spec_AddrBytes.T6 := by kernel_rfl
theorem spec_AddrBytes.bits6 : waitsOk spec_AddrBytes.T6.2 spec_AddrBytes.B6 = true := by kernel_rfl
set_option maxHeartbeats 8000000 in
set_option maxRecDepth 100000 in
theorem spec_AddrBytes.calls (a0_0 a0_1 a0_2 a0_3 a0_4 : Int) (r : List Int) (w : World) (h : spec_AddrBytes.f a0_0 a0_1 a0_2 a0_3 a0_4 = some r) :
  Calls Try.prog 50 #[.agg #[I L a0_0,I L a0_1,I L a0_2,I L a0_3,I L a0_4]] w fun e w'=>∃ v0_:Value,e=.returned (v0_)∧Kd.R (Kd.int .u8) 5 w' w.heap.size (fun _=>True) v0_ r∧Below w.heap.size w w':=by
 have hu25 := Try.underlying25
 have HB := D (Below.refl w.heap.size w)
 have H:((spec_AddrOk.f a0_0 a0_1 a0_2 a0_3 a0_4).bind fun Uc=>(if Uc=true then (if a0_0=4 then ((spec_Put32.f a0_4).bind fun Xc=>(some Xc)) else ((spec_Put32.f a0_1).bind fun Mb=>((spec_Put32.f a0_2).bind fun Jb=>(if Mb.length + Jb.length < 140737488355328 then ((some (Mb ++ Jb:List Int)).bind fun y146=>((spec_Put32.f a0_3).bind fun Ua=>(if y146.length + Ua.length < 140737488355328 then ((some (y146 ++ Ua:List Int)).bind fun y152=>((spec_Put32.f a0_4).bind fun Oa=>(if y152.length + Oa.length < 140737488355328 then (some (y152 ++ Oa)) else (none)))) else (none)))) else (none))))) else (some ([]:List Int))))=some r:=h
 clear h
 obtain ⟨Uc, A20, H⟩ := bs_.mp H
 (try dsimp only at H)
 have A2 := D A20
 clear A20
 have HU3 := D H
 clear H
 go_enter Try.func50, Try.ntmps50
 go_upto_if 6 with (first|((with_reducible refine gate_dst (N:=1) rfl ?_);refine bx_ (N:=1) (cs:=#[I L a0_0,I L a0_1,I L a0_2,I L a0_3,I L a0_4]) (t:=25) ?_;intro Ma hg w4 hbox hb;have n_:=an_ (below_step (pB_ HB.out) hb)<|an_ (hbox)<|an_ (bg_ hg (pB_ HB.out):w.heap.size≤Ma)<|D (bg_ hg (pB_ HB.out):w.heap.size≤Ma);clear HB;obtain ⟨HB,Ja,Me,Oe⟩:=n_;clear hb hbox hg;have Ue:=cells5 Ja.out)|((with_reducible refine gate_callee (f:=27) rfl ?_);refine goesL_ (some 5) rfl rfl Try.func27 (by kernel_rfl) rfl #[.agg #[I L a0_0,I L a0_1,I L a0_2,I L a0_3,I L a0_4]] rfl Z8 ?_;(with_reducible refine (spec_AddrOk.calls a0_0 a0_1 a0_2 a0_3 a0_4 Uc _ A2.out).mono ?_);rintro e w6 ⟨rfl,hb⟩;refine ⟨_,rfl,?_⟩;have n_:=an_ (blk_below (pk_ Ja.out) hb)<|D (below_step (pB_ HB.out) hb);clear Ja HB;obtain ⟨Ja,HB⟩:=n_;(try clear hb)))
 have H := HU3.out
 clear HU3
 by_cases c7 : Uc = true
 ·subst c7
  rw [if_pos rfl] at H
  by_cases c8 : a0_0 = 4
  ·rw [if_pos c8] at H
   have c8b0:(a0_0 == 4)=true:=beq_iff_eq.mpr c8;have c8b1:(a0_0 != 4)=false:=bne_eq_false_iff_eq.mpr c8;clear c8;refine rw_ c8b0 ?_;obtain ⟨Xc,A90,H⟩:=bs_.mp H;(try dsimp only at H);have A9:=D A90;clear A90;obtain rfl:=Option.some.inj H;have Mg:=cells5 Ja.out
   go_wp2_with (first|((with_reducible refine gate_callee (f:=56) rfl ?_);refine goesL_ (some 12) rfl rfl Try.func56 (by kernel_rfl) rfl #[I L a0_4] rfl Z8 ?_;(with_reducible refine (spec_Put32.calls a0_4 Xc _ A9.out).mono ?_);rintro e w11 ⟨Ji,rfl,ho0,hb⟩;refine ⟨_,rfl,?_⟩;have n_:=an_ (Kd.R_lower ho0 (below_size (pB_ HB.out)))<|an_ (blk_below (pk_ Ja.out) hb)<|D (below_step (pB_ HB.out) hb);clear Ja HB;obtain ⟨Od,Ja,HB⟩:=n_;(try clear hb);(try clear ho0)))
   go_ret;exact ⟨_,er_,by (with_reducible repeat (first|apply Kd.R_alloc|apply Kd.R_drewN|apply Kd.R_drew));exact Od.out,pB_ HB.out⟩
  ·rw [if_neg c8] at H
   have c8b0:(a0_0 == 4)=false:=beq_eq_false_iff_ne.mpr c8;have c8b1:(a0_0 != 4)=true:=bne_iff_ne.mpr c8;refine rw_ c8b0 ?_;obtain ⟨Mb,A120,H⟩:=bs_.mp H;(try dsimp only at H);have A12:=D A120;clear A120;obtain ⟨Jb,A130,H⟩:=bs_.mp H;(try dsimp only at H);have A13:=D A130;clear A130
   by_cases c14 : Mb.length + Jb.length < 140737488355328
   ·rw [if_pos c14] at H
    have LMc14 := D c14; clear c14; obtain ⟨y146, hy146⟩ : ∃ y_ : List Int, y_ = (Mb ++ Jb) := ⟨_, rfl⟩
    replace H:((spec_Put32.f a0_3).bind fun Ua=>(if y146.length + Ua.length < 140737488355328 then ((some (y146 ++ Ua:List Int)).bind fun y152=>((spec_Put32.f a0_4).bind fun Oa=>(if y152.length + Oa.length < 140737488355328 then (some (y152 ++ Oa)) else (none)))) else (none)))=some r:=by first|(rw [hy146];with_reducible exact H)|(have H2_:=(Option.bind_some _ _).symm.trans H;rw [hy146];with_reducible exact H2_)|(have H2_:=(Option.bind_some _ _).symm.trans H;with_reducible exact H2_)|with_reducible exact H|(rw [hy146];exact H)|exact H
    have Ny146 := D hy146; clear hy146; obtain ⟨Ua, A150, H⟩ := bs_.mp H; (try dsimp only at H); have A15 := D A150; clear A150
    by_cases c16 : y146.length + Ua.length < 140737488355328
    ·rw [if_pos c16] at H
     have LMc16 := D c16; clear c16; obtain ⟨y152, hy152⟩ : ∃ y_ : List Int, y_ = (y146 ++ Ua) := ⟨_, rfl⟩
     replace H:((spec_Put32.f a0_4).bind fun Oa=>(if y152.length + Oa.length < 140737488355328 then (some (y152 ++ Oa)) else (none)))=some r:=by first|(rw [hy152];with_reducible exact H)|(have H2_:=(Option.bind_some _ _).symm.trans H;rw [hy152];with_reducible exact H2_)|(have H2_:=(Option.bind_some _ _).symm.trans H;with_reducible exact H2_)|with_reducible exact H|(rw [hy152];exact H)|exact H
     have Ny152 := D hy152; clear hy152; obtain ⟨Oa, A170, H⟩ := bs_.mp H; (try dsimp only at H); have A17 := D A170; clear A170
     by_cases c18 : y152.length + Oa.length < 140737488355328
     ·rw [if_pos c18] at H
      have LMc18 := D c18; clear c18; obtain ⟨y158, hy158⟩ : ∃ y_ : List Int, y_ = (y152 ++ Oa) := ⟨_, rfl⟩
      replace H:(some y158)=some r:=by first|(rw [hy158];with_reducible exact H)|(have H2_:=(Option.bind_some _ _).symm.trans H;rw [hy158];with_reducible exact H2_)|(have H2_:=(Option.bind_some _ _).symm.trans H;with_reducible exact H2_)|with_reducible exact H|(rw [hy158];exact H)|exact H
      have Ny158 := D hy158; clear hy158; obtain rfl := Option.some.inj H; obtain ⟨Ki, Mi, Oi, Ui, Xi, Jj, Kj, Mj, Oj, Uj⟩ := cells5 Ja.out
      try go_wp2
      have n_ := an_ (blk_drew Ja.out) <| D (below_drew1 HB.out)
      clear Ja HB;obtain ⟨Ja,HB⟩:=n_;refine start_ (n:=8) (S:=fun w'=>w'.cell? ⟨Ma,0,none⟩=some (I L a0_0)∧w'.cell? ⟨Ma,1,none⟩=some (I L a0_1)∧w'.cell? ⟨Ma,2,none⟩=some (I L a0_2)∧w'.cell? ⟨Ma,3,none⟩=some (I L a0_3)∧w'.cell? ⟨Ma,4,none⟩=some (I L a0_4)) (ds:=[]) (bz 8 0) (by kernel_rfl) rfl (by kernel_rfl) (be5_ Ja.out) (fun hHeld=>?_);refine with_tabW spec_AddrBytes.tab5 spec_AddrBytes.bits5 (fun HT_ HW_=>?_);generalize w6.drew=w20 at Ja HB hHeld ⊢;refine pb_ 0 ?_;refine pb_ 3 ?_;refine tb_ 1 rfl rfl hHeld Z15 ?_;refine tb_ 4 rfl rfl hHeld Z15 ?_;refine oa_ 2 15 8 31 HT_ (fun K hK=>?_);refine goes_ Try.func56 (by kernel_rfl) rfl #[I L a0_1] (by rfl) rfl rfl Z8 ?_;with_reducible refine (spec_Put32.calls a0_1 Mb _ A12.out).mono ?_
      rintro e w21 ⟨Ud, rfl, ho0, hb⟩; refine ⟨_, rfl, ?_⟩
      have n_ := an_ (Kd.R_lower ho0 (below_size (pB_ HB.out))) <| an_ (blk_below (pk_ Ja.out) hb) <| D (below_step (pB_ HB.out) hb)
      clear Ja HB;obtain ⟨Ob,Ja,HB⟩:=n_;refine hK.out _ _ (be5_ Ja.out) (fun hHeld=>?_);clear hK K;refine nx_ (N:=some 15) ?_;refine oa_ 5 18 8 63 HT_ (fun K hK=>?_);refine goes_ Try.func56 (by kernel_rfl) rfl #[I L a0_2] (by rfl) rfl rfl Z8 ?_;with_reducible refine (spec_Put32.calls a0_2 Jb _ A13.out).mono ?_
      rintro e w22 ⟨Xj, rfl, ho0, hb⟩; refine ⟨_, rfl, ?_⟩
      have n_:=an_ (Kd.R_elder' (pR_ Ob.out) (Kd.R_base ho0) hb)<|an_ (Kd.R_lower (nw_ ho0 (pR_ Ob.out)) (below_size (pB_ HB.out)))<|an_ (blk_below (pk_ Ja.out) hb)<|D (below_step (pB_ HB.out) hb)
      clear Ob Ja HB;obtain ⟨Ob,Ka,Ja,HB⟩:=n_;obtain ⟨Xb,Jc,eo24⟩:=Kd.R_slice Ka.out;(first|subst eo24|obtain ⟨rfl,rfl⟩:=sl_inj eo24);refine hK.out _ _ (be5_ Ja.out) (fun hHeld=>?_);clear hK K;refine nx_ (N:=some 18) ?_;refine oa_ 6 19 8 127 HT_ (fun K hK=>?_);refine Kd.R_append_rows_step (Kd.int .u8) (w0:=w) w.heap.size (by rfl) (.tmp 15) (.tmp 18) 22 5 (.int .u8 0) 1 rfl Try.underlying22 info5 rfl (by decide) (by omega) Ud Mb Jb _ _ _ (fun k_=>some k_≠(Y Xb Jb.length Jc:Value).ownBlock) (fun _=>False) rfl rfl ?aO ?aR (fun _ _ h=>h) (fun _ h=>h.elim) ?aF ?aB ?aS ?aL ?_;(case aR=>exact pC_ ((Kd.R_reads' Ka.out).2.2));(case aB=>exact (pB_ HB.out));(case aF=>exact (fun k_ hk=>Kd.fresh' (Kd.R_lt (pR_ Ka.out)) k_ hk));(case aO=>exact (pR_ (Kd.R_mono Ob.out (fun _ hk=>hk.2))));(case aS=>exact (below_size (pB_ HB.out)));(case aL=>have:=LMc14.out;omega);intro Xd w23 ho hb hg hat;rw [← Ny146.out] at ho
      have n_ := an_ (blk_grown (pk_ Ja.out) hg (Kd.R_ne Ob.out Ja.out (by decide))) <| an_ (Kd.R_after (ok := (fun _ => True)) (pR_ Ka.out) hg hat) <| an_ (hb) <| D (ho)
      clear Ja Ka HB Ob;obtain ⟨Ja,Ka,HB,Kb⟩:=n_;clear ho hb hg hat;refine hK.out _ _ (be5_ Ja.out) (fun hHeld=>?_);clear hK K;refine nx_ (N:=some 19) ?_;refine pb_ 7 ?_;refine done_ (done_of HT_.out (by kernel_rfl)) ?_
      try go_wp2
      have n_ := an_ (Kd.R_drew Ka.out) <| an_ (Kd.R_drew Kb.out) <| an_ (blk_drew Ja.out) <| D (below_drew1 HB.out)
      clear Ka Kb Ja HB;obtain ⟨Ka,Kb,Ja,HB⟩:=n_;refine start_ (n:=10) (S:=fun w'=>w'.cell? ⟨Ma,0,none⟩=some (I L a0_0)∧w'.cell? ⟨Ma,1,none⟩=some (I L a0_1)∧w'.cell? ⟨Ma,2,none⟩=some (I L a0_2)∧w'.cell? ⟨Ma,3,none⟩=some (I L a0_3)∧w'.cell? ⟨Ma,4,none⟩=some (I L a0_4)) (ds:=[]) (bz 10 0) (by kernel_rfl) rfl (by kernel_rfl) (be5_ Ja.out) (fun hHeld=>?_);refine with_tabW spec_AddrBytes.tab6 spec_AddrBytes.bits6 (fun HT_ HW_=>?_);generalize w23.drew=w25 at Ka Kb Ja HB hHeld ⊢;refine pb_ 0 ?_;refine pb_ 1 ?_;refine pb_ 5 ?_;refine tb_ 2 rfl rfl hHeld Z15 ?_;refine tb_ 6 rfl rfl hHeld Z15 ?_;refine oa_ 3 23 10 111 HT_ (fun K hK=>?_);refine goes_ Try.func56 (by kernel_rfl) rfl #[I L a0_3] (by rfl) rfl rfl Z8 ?_;with_reducible refine (spec_Put32.calls a0_3 Ua _ A15.out).mono ?_
      rintro e w26 ⟨Jk, rfl, ho0, hb⟩; refine ⟨_, rfl, ?_⟩
      have n_:=an_ (Kd.R_elder' (pR_ Ka.out) (Kd.R_base ho0) hb)<|an_ (Kd.R_elder' (pR_ Kb.out) (Kd.R_base ho0) hb)<|an_ (Kd.R_lower (nw_ (nw_ ho0 (pR_ Ka.out)) (pR_ Kb.out)) (below_size (pB_ HB.out)))<|an_ (blk_below (pk_ Ja.out) hb)<|D (below_step (pB_ HB.out) hb)
      clear Ka Kb Ja HB;obtain ⟨Ka,Kb,Xa,Ja,HB⟩:=n_;obtain ⟨Mc,Oc,eo28⟩:=Kd.R_slice Xa.out;(first|subst eo28|obtain ⟨rfl,rfl⟩:=sl_inj eo28);refine hK.out _ _ (be5_ Ja.out) (fun hHeld=>?_);clear hK K;refine nx_ (N:=some 23) ?_;refine oa_ 4 24 10 127 HT_ (fun K hK=>?_);refine Kd.R_append_rows_step (Kd.int .u8) (w0:=w) w.heap.size (by rfl) (.tmp 20) (.tmp 23) 22 5 (.int .u8 0) 1 rfl Try.underlying22 info5 rfl (by decide) (by omega) Xd y146 Ua _ _ _ (fun k_=>some k_≠(Y Xb Jb.length Jc:Value).ownBlock∧some k_≠(Y Mc Ua.length Oc:Value).ownBlock) (fun _=>False) rfl rfl ?aO ?aR (fun _ _ h=>h) (fun _ h=>h.elim) ?aF ?aB ?aS ?aL ?_;(case aR=>exact pC_ ((Kd.R_reads' Xa.out).2.2));(case aB=>exact (pB_ HB.out));(case aF=>exact (fun k_ hk=>⟨Kd.fresh' (Kd.R_lt (pR_ Ka.out)) k_ hk,Kd.fresh' (Kd.R_lt (pR_ Xa.out)) k_ hk⟩));(case aO=>exact (pR_ Kb.out));(case aS=>exact (below_size (pB_ HB.out)));(case aL=>have:=LMc16.out;omega);intro Je w27 ho hb hg hat;rw [← Ny152.out] at ho
      have n_:=an_ (blk_grown (pk_ Ja.out) hg (Kd.R_ne Kb.out Ja.out (by decide)))<|an_ (Kd.R_after (ok:=(fun k_=>some k_≠(Y Mc Ua.length Oc:Value).ownBlock)) (pR_ (Kd.R_mono Ka.out (fun _ hk=>⟨hk.2,hk.1.2⟩))) hg hat)<|an_ (Kd.R_after (ok:=(fun k_=>some k_≠(Y Xb Jb.length Jc:Value).ownBlock)) (pR_ (Kd.R_mono Xa.out (fun _ hk=>⟨hk.1.2,hk.2⟩))) hg hat)<|an_ (hb)<|D (ho)
      clear Ja Ka Xa HB Kb;obtain ⟨Ja,Ka,Xa,HB,Ub⟩:=n_;clear ho hb hg hat;refine hK.out _ _ (be5_ Ja.out) (fun hHeld=>?_);clear hK K;refine nx_ (N:=some 24) ?_;refine oa_ 7 27 10 255 HT_ (fun K hK=>?_);refine goes_ Try.func56 (by kernel_rfl) rfl #[I L a0_4] (by rfl) rfl rfl Z8 ?_;with_reducible refine (spec_Put32.calls a0_4 Oa _ A17.out).mono ?_
      rintro e w29 ⟨Kk, rfl, ho0, hb⟩; refine ⟨_, rfl, ?_⟩
      have n_:=an_ (Kd.R_elder' (pR_ Ka.out) (Kd.R_base ho0) hb)<|an_ (Kd.R_elder' (pR_ Xa.out) (Kd.R_base ho0) hb)<|an_ (Kd.R_elder' (pR_ Ub.out) (Kd.R_base ho0) hb)<|an_ (Kd.R_lower (nw_ (nw_ (nw_ ho0 (pR_ Ka.out)) (pR_ Xa.out)) (pR_ Ub.out)) (below_size (pB_ HB.out)))<|an_ (blk_below (pk_ Ja.out) hb)<|D (below_step (pB_ HB.out) hb)
      clear Ka Xa Ub Ja HB;obtain ⟨Ka,Xa,Ub,Kc,Ja,HB⟩:=n_;obtain ⟨Jd,Md,eo31⟩:=Kd.R_slice Kc.out;(first|subst eo31|obtain ⟨rfl,rfl⟩:=sl_inj eo31);refine hK.out _ _ (be5_ Ja.out) (fun hHeld=>?_);clear hK K;refine nx_ (N:=some 27) ?_;refine oa_ 8 28 10 511 HT_ (fun K hK=>?_);refine Kd.R_append_rows_step (Kd.int .u8) (w0:=w) w.heap.size (by rfl) (.tmp 24) (.tmp 27) 22 5 (.int .u8 0) 1 rfl Try.underlying22 info5 rfl (by decide) (by omega) Je y152 Oa _ _ _ (fun k_=>some k_≠(Y Xb Jb.length Jc:Value).ownBlock∧some k_≠(Y Mc Ua.length Oc:Value).ownBlock∧some k_≠(Y Jd Oa.length Md:Value).ownBlock) (fun _=>False) rfl rfl ?aO ?aR (fun _ _ h=>h) (fun _ h=>h.elim) ?aF ?aB ?aS ?aL ?_;(case aR=>exact pC_ ((Kd.R_reads' Kc.out).2.2));(case aB=>exact (pB_ HB.out));(case aF=>exact (fun k_ hk=>⟨Kd.fresh' (Kd.R_lt (pR_ Ka.out)) k_ hk,Kd.fresh' (Kd.R_lt (pR_ Xa.out)) k_ hk,Kd.fresh' (Kd.R_lt (pR_ Kc.out)) k_ hk⟩));(case aO=>exact (pR_ (Kd.R_mono Ub.out (fun _ hk=>⟨hk.1.1,⟨hk.1.2,hk.2⟩⟩))));(case aS=>exact (below_size (pB_ HB.out)));(case aL=>have:=LMc18.out;omega);intro Mk w30 ho hb hg hat;rw [← Ny158.out] at ho
      have n_:=an_ (blk_grown (pk_ Ja.out) hg (Kd.R_ne Ub.out Ja.out (by decide)))<|an_ (Kd.R_after (ok:=(fun k_=>some k_≠(Y Mc Ua.length Oc:Value).ownBlock∧some k_≠(Y Jd Oa.length Md:Value).ownBlock)) (pR_ (Kd.R_mono Ka.out (fun _ hk=>⟨⟨hk.1.1,hk.2⟩,hk.1.2⟩))) hg hat)<|an_ (Kd.R_after (ok:=(fun k_=>some k_≠(Y Xb Jb.length Jc:Value).ownBlock∧some k_≠(Y Jd Oa.length Md:Value).ownBlock)) (pR_ (Kd.R_mono Xa.out (fun _ hk=>⟨⟨hk.1.1,hk.2⟩,hk.1.2⟩))) hg hat)<|an_ (Kd.R_after (ok:=(fun k_=>some k_≠(Y Xb Jb.length Jc:Value).ownBlock∧some k_≠(Y Mc Ua.length Oc:Value).ownBlock)) (pR_ (Kd.R_mono Kc.out (fun _ hk=>⟨⟨hk.1.1.2,hk.1.2⟩,hk.2⟩))) hg hat)<|an_ (hb)<|D (ho)
      clear Ja Ka Xa Kc HB Ub;obtain ⟨Ja,Ka,Xa,Kc,HB,Ke⟩:=n_;clear ho hb hg hat;refine hK.out _ _ (be5_ Ja.out) (fun hHeld=>?_);clear hK K;refine nx_ (N:=some 28) ?_;refine pb_ 9 ?_;refine done_ (done_of HT_.out (by kernel_rfl)) ?_
      try go_wp2
      go_ret;exact ⟨_,er_,by (with_reducible repeat (first|apply Kd.R_alloc|apply Kd.R_drewN|apply Kd.R_drew));exact Kd.R_mono Ke.out (fun _ hk=>trivial),pB_ HB.out⟩
     ·rw [if_neg c18] at H
      exact absurd H (by simp)
    ·rw [if_neg c16] at H
     exact absurd H (by simp)
   ·rw [if_neg c14] at H
    exact absurd H (by simp)
 ·replace c7 := Bool.eq_false_iff.mpr c7
  subst c7; rw [if_neg (show ¬ (false = true) by decide)] at H; obtain rfl := Option.some.inj H
  go_wp2
  go_ret;exact ⟨_,er_,by first|exact Kd.R_nil _ _ _ _ _|exact Kd.N_nil _ _ _ _ _|exact Kd.V_nil _ _ _ _ _|exact Kd.Q_nil _ _ _ _ _|exact Kd.S_nil _ _ _ _ _,pB_ HB.out⟩

/-! ### spec_Be32: function 57 -/
mutual
def spec_Be32.j0 : Nat → List Int → Int → Bool → Option (Int × Bool)
 | 0, _, _, _ => none
 | k + 1, x0, x1, x16 => if x16 = true then (some (0, false)) else (spec_Be32.l0 k x0 x1 0 0)
def spec_Be32.l0 : Nat → List Int → Int → Int → Int → Option (Int × Bool)
 | 0, _, _, _, _ => none
 | k + 1,x0,x1,x6,x7=>if x7 < 4 then (if 0≤(wrap64 (x1 + x7)) then (if (wrap64 (x1 + x7)) < (x0.length:Int) then (spec_Be32.l0 k x0 x1 (wrap64 ((wrap64 (256 * x6)) + (wrap64 (rd x0 (wrap64 (x1 + x7)))))) (wrap64 (x7 + 1))) else (none)) else (none)) else (some (x6,true))
end
def spec_Be32.f (k : Nat) (l0 : List Int) (a1 : Int) : Option (Int × Bool) := if a1 < 0 then (spec_Be32.j0 k l0 a1 true) else (spec_Be32.j0 k l0 a1 (decide (a1 > (wrap64 ((l0.length : Int) - 4)))))
set_option maxHeartbeats 8000000 in
set_option maxRecDepth 100000 in
theorem spec_Be32.calls (k : Nat) (A0 : Option Addr) (c0 : Nat) (l0 : List Int) (a1 r1 : Int) (r2 : Bool) (w : World) (hr0 : Kd.C (Kd.int .u8) w A0 l0.length l0) (hc0 : l0.length ≤ c0) (h : spec_Be32.f k l0 a1 = some (r1, r2)) :
  Calls Try.prog 57 #[Y A0 l0.length c0, I L a1] w fun e w' => e = .returned (.tuple #[I L r1, .bool r2]) ∧ Drawn0 w w' := by
 have HR0 := D hr0
 have HC0 := D hc0
 clear hr0 hc0
 have H : (if a1 < 0 then (spec_Be32.j0 k l0 a1 true) else (spec_Be32.j0 k l0 a1 (decide (a1 > (wrap64 ((l0.length : Int) - 4)))))) = some (r1, r2) := h
 clear h
 have HC3 := D H
 clear H
 go_enter Try.func57, Try.ntmps57
 go_upto_region 1 with (fail)
 go_cut [16] (fun v16 wc => ∃ (kq : Nat) (x16_2 : Bool), v16 = .bool x16_2 ∧ Aside0 (spec_Be32.j0 kq l0 a1 x16_2 = some (r1, r2)) ∧ Aside0 (kq ≤ k) ∧ Drawn0 w wc)
 case first =>
  have H := HC3.out; clear HC3
  by_cases c4 : a1 < 0
  ·rw [if_pos c4] at H
   have c4b0:decide (a1 < 0)=true:=decide_eq_true c4;clear c4;refine rw_ c4b0 ?_;have H':=D H;clear H
   go_wp2
   go_meet
   case rel => exact ⟨_, (true), Z17, H', ⟨by first | omega | exact Nat.le_refl _⟩, by repeat (first | exact Drawn0.refl _ | apply Drawn0.step)⟩
  ·rw [if_neg c4] at H
   have c4b0:decide (a1 < 0)=false:=decide_eq_false c4;clear c4;refine rw_ c4b0 ?_;have H':=D H;clear H
   go_wp2
   go_meet
   case rel => exact ⟨_, (decide (a1 > (wrap64 ((l0.length : Int) - 4)))), Z17, H', ⟨by first | omega | exact Nat.le_refl _⟩, by repeat (first | exact Drawn0.refl _ | apply Drawn0.step)⟩
 case rest =>
  clear HC3
  (try clear p2);(try clear c4);(try clear c4b0)
  obtain ⟨kq, x16_2, rfl, HA, HJ2, ⟨mc2, rfl⟩⟩ := hcut
  cases kq with
  | zero => exact absurd HA.out (by simp [spec_Be32.j0])
  | succ kj2 =>
   have H := HA.out; clear HA; simp only [spec_Be32.j0] at H
   by_cases c5 : x16_2 = true
   ·subst c5
    rw [if_pos rfl] at H; simp only [Option.some.injEq, Prod.mk.injEq] at H; obtain ⟨rfl, rfl⟩ := H
    go_wp2
    go_ret2; exact ⟨by first | rfl | (simp; done) | (simp [*]; done), by repeat (first | exact Drawn0.refl _ | apply Drawn0.step)⟩
   ·replace c5 := Bool.eq_false_iff.mpr c5
    subst c5; rw [if_neg (show ¬ (false = true) by decide)] at H; have H' := D H; clear H
    go_wp2
    go_loopg [6,7] kj2 (fun kq v6 v7 w'=>∃ (x6_2:Int) (x7_2:Int),v6=I L x6_2∧v7=I L x7_2∧Aside0 (spec_Be32.l0 kq l0 a1 x6_2 x7_2=some (r1,r2))∧Aside0 (kq≤kj2)∧Drawn0 w w')
    case atStart => exact ⟨(0), (0), Z17, Z17, H', ⟨Nat.le_refl _⟩, by repeat (first | exact Drawn0.refl _ | apply Drawn0.step)⟩
    case round =>
     clear H'
     (try clear c2);(try clear p2);(try clear c4);(try clear c4b0);(try clear c5);(try clear p2)
     obtain ⟨x6_2, x7_2, rfl, rfl, HA, HK2, ⟨m2, rfl⟩⟩ := hrel
     cases gk with
     | zero => exact absurd HA.out (by simp [spec_Be32.l0])
     | succ k2 =>
      have H := HA.out; clear HA; simp only [spec_Be32.l0] at H
      by_cases c6 : x7_2 < 4
      ·rw [if_pos c6] at H
       have c6b0 : decide (x7_2 < 4) = true := decide_eq_true c6; clear c6; obtain ⟨ji7, hji7⟩ : ∃ j_ : Int, (wrap64 (a1 + x7_2)) = j_ := ⟨_, rfl⟩
       replace H:(if 0≤(ji7) then (if (ji7) < (l0.length:Int) then (spec_Be32.l0 k2 l0 a1 (wrap64 ((wrap64 (256 * x6_2)) + (wrap64 (rd l0 (ji7))))) (wrap64 (x7_2 + 1))) else (none)) else (none))=some (r1,r2):=by first|(rw [hji7] at H;exact H)|(simp only [hji7] at H ⊢;exact H)
       have hji7w : (IntKind.i64.wrap (a1 + x7_2)) = ji7 := (i64_w _).trans hji7
       by_cases c8 : 0 ≤ (ji7)
       ·rw [if_pos c8] at H
        have c8b0 : decide (0 ≤ (ji7)) = true := decide_eq_true c8; clear c8
        by_cases c9 : (ji7) < (l0.length : Int)
        ·rw [if_pos c9] at H
         have c9b0:decide ((ji7) < (l0.length:Int))=true:=decide_eq_true c9;clear c9;have H':=D H;clear H;have p161:0≤((ji7):Int):=od_ Z16;have q161:(ji7) < (l0.length:Int):=od_ Z16;obtain ⟨ad161,e161,hx161_0⟩:=Kd.at_int HR0.out (ji7) p161 q161;cases e161;replace p161:=eq_true p161;replace q161:=eq_true q161
         go_wp2
         go_roundg k2
         case measure => have := HJ2.out; have := HK2.out; omega
         case rel=>exact ⟨(wrap64 ((wrap64 (256 * x6_2)) + (wrap64 (rd l0 (ji7))))),(wrap64 (x7_2 + 1)),(by first|rfl|(simp;done)|(simp only [← hji7] <;> (first|rfl|simp))|(simp [*];done)),Z17,H',⟨by have:=HJ2.out;have:=HK2.out;omega⟩,by repeat (first|exact Drawn0.refl _|apply Drawn0.step)⟩
        ·rw [if_neg c9] at H
         exact absurd H (by simp)
       ·rw [if_neg c8] at H
        exact absurd H (by simp)
      ·rw [if_neg c6] at H
       have c6b0 : decide (x7_2 < 4) = false := decide_eq_false c6; clear c6; simp only [Option.some.injEq, Prod.mk.injEq] at H; obtain ⟨rfl, rfl⟩ := H
       go_wp2
       go_ret2; exact ⟨by first | rfl | (simp; done) | (simp [*]; done), by repeat (first | exact Drawn0.refl _ | apply Drawn0.step)⟩

/-! ### spec_AddrOf: function 51 -/
def spec_AddrOf.f (k : Nat) (l0 : List Int) : Option (Int × Int × Int × Int × Int × Bool) := if (l0.length : Int) = 4 then ((spec_Be32.f k l0 0).bind fun bt163 => (some (4, 0, 0, 0, bt163.1, true))) else (if (l0.length : Int) = 16 then ((spec_Be32.f k l0 0).bind fun bt165 => ((spec_Be32.f k l0 4).bind fun bt167 => ((spec_Be32.f k l0 8).bind fun bt169 => ((spec_Be32.f k l0 12).bind fun bt171 => (some (6, bt165.1, bt167.1, bt169.1, bt171.1, true)))))) else (some (0, 0, 0, 0, 0, false)))
set_option maxHeartbeats 8000000 in
set_option maxRecDepth 100000 in
theorem spec_AddrOf.calls (k : Nat) (A0 : Option Addr) (c0 : Nat) (l0 : List Int) (r1 r2 r3 r4 r5 : Int) (r6 : Bool) (w : World) (hr0 : Kd.C (Kd.int .u8) w A0 l0.length l0) (hc0 : l0.length ≤ c0) (h : spec_AddrOf.f k l0 = some (r1, r2, r3, r4, r5, r6)) :
  Calls Try.prog 51 #[Y A0 l0.length c0] w fun e w'=>e=.returned (.tuple #[.agg #[I L r1,I L r2,I L r3,I L r4,I L r5],.bool r6])∧Below w.heap.size w w':=by
 have hu25 := Try.underlying25
 have HR0 := D hr0
 have HC0 := D hc0
 clear hr0 hc0
 have HB := D (Below.refl w.heap.size w)
 have H:(if (l0.length:Int)=4 then ((spec_Be32.f k l0 0).bind fun bt163=>(some (4,0,0,0,bt163.1,true))) else (if (l0.length:Int)=16 then ((spec_Be32.f k l0 0).bind fun bt165=>((spec_Be32.f k l0 4).bind fun bt167=>((spec_Be32.f k l0 8).bind fun bt169=>((spec_Be32.f k l0 12).bind fun bt171=>(some (6,bt165.1,bt167.1,bt169.1,bt171.1,true)))))) else (some (0,0,0,0,0,false))))=some (r1,r2,r3,r4,r5,r6):=h
 clear h
 have HU2 := D H
 clear H
 go_enter Try.func51, Try.ntmps51
 go_upto_if 16 with (first|((with_reducible refine gate_dst (N:=2) rfl ?_);refine bx_ (N:=2) (cs:=#[I L 0,I L 0,I L 0,I L 0,I L 0]) (t:=25) ?_;intro gb162 hg w3 hbox hb;have n_:=an_ (below_step (pB_ HB.out) hb)<|an_ (hbox)<|an_ (bg_ hg (pB_ HB.out):w.heap.size≤gb162)<|D (bg_ hg (pB_ HB.out):w.heap.size≤gb162);clear HB;obtain ⟨HB,BK162,GW162,GE162⟩:=n_;clear hb hbox hg))
 have H := HU2.out
 clear HU2
 by_cases c4 : (l0.length : Int) = 4
 ·rw [if_pos c4] at H
  have c4b0:((l0.length:Int) == 4)=true:=beq_iff_eq.mpr c4;have c4b1:((l0.length:Int) != 4)=false:=bne_eq_false_iff_eq.mpr c4;clear c4;refine rw_ c4b0 ?_;obtain ⟨⟨t163,t164⟩,A50,H⟩:=bs_.mp H;(try dsimp only at H);have A5:=D A50;clear A50;simp only [Option.some.injEq,Prod.mk.injEq] at H;obtain ⟨rfl,rfl,rfl,rfl,rfl,rfl⟩:=H
  go_wp2_with (first|((with_reducible refine gate_callee (f:=57) rfl ?_);refine goesL_ (some 19) rfl rfl Try.func57 (by kernel_rfl) rfl #[Y A0 l0.length c0,I L 0] rfl Z8 ?_;(with_reducible refine (spec_Be32.calls k _ _ l0 0 t163 t164 _ ?side1 ?side2 A5.out).mono ?_);(case side1=>exact pC_ (Kd.C_below HR0.out HB.out));(case side2=>exact HC0.out);rintro e w' ⟨rfl,⟨nd,rfl⟩⟩;refine ⟨_,rfl,?_⟩;(try (rw [drewN_self w3];generalize hq_:World.drewN w3 _=w3;have n0_:Aside0 (w3.heap[gb162]?=some (.cells #[I L 0,I L 0,I L 0,I L 0,I L 0] 25 (0,0))):=⟨by rw [← hq_];exact (pk_ BK162.out)⟩;have n1_:Aside0 (Below w.heap.size w w3):=⟨by rw [← hq_];exact (pB_ HB.out)⟩;clear BK162 HB hq_;have BK162:=n0_;have HB:=n1_;clear n0_ n1_));have hcz6_0:=cells5 BK162.out))
  refine bodyPost_ret (results_ct rfl _ _ gb162 25 #[I L 4,I L 0,I L 0,I L 0,I L t163] (0,0) _ rfl (by exact pP_ BK162.out) Try.underlying25 rfl (by kernel_rfl)) rfl ?_;exact ⟨er_,pB_ HB.out⟩
 ·rw [if_neg c4] at H
  have c4b0:((l0.length:Int) == 4)=false:=beq_eq_false_iff_ne.mpr c4;have c4b1:((l0.length:Int) != 4)=true:=bne_iff_ne.mpr c4;refine rw_ c4b0 ?_
  by_cases c7 : (l0.length : Int) = 16
  ·rw [if_pos c7] at H
   have c7b0:((l0.length:Int) == 16)=true:=beq_iff_eq.mpr c7;have c7b1:((l0.length:Int) != 16)=false:=bne_eq_false_iff_eq.mpr c7;clear c7;obtain ⟨⟨t165,t166⟩,A80,H⟩:=bs_.mp H;(try dsimp only at H);have A8:=D A80;clear A80;obtain ⟨⟨t167,t168⟩,A90,H⟩:=bs_.mp H;(try dsimp only at H);have A9:=D A90;clear A90;obtain ⟨⟨t169,t170⟩,A100,H⟩:=bs_.mp H;(try dsimp only at H);have A10:=D A100;clear A100;obtain ⟨⟨t171,t172⟩,A110,H⟩:=bs_.mp H;(try dsimp only at H);have A11:=D A110;clear A110;simp only [Option.some.injEq,Prod.mk.injEq] at H;obtain ⟨rfl,rfl,rfl,rfl,rfl,rfl⟩:=H
   go_wp2_with (first|((with_reducible refine gate_callee (f:=57) rfl ?_);refine goesL_ (some 29) rfl rfl Try.func57 (by kernel_rfl) rfl #[Y A0 l0.length c0,I L 0] rfl Z8 ?_;(with_reducible refine (spec_Be32.calls k _ _ l0 0 t165 t166 _ ?side1 ?side2 A8.out).mono ?_);(case side1=>exact pC_ (Kd.C_below HR0.out HB.out));(case side2=>exact HC0.out);rintro e w' ⟨rfl,⟨nd,rfl⟩⟩;refine ⟨_,rfl,?_⟩;(try (rw [drewN_self w3];generalize hq_:World.drewN w3 _=w3;have n0_:Aside0 (w3.heap[gb162]?=some (.cells #[I L 0,I L 0,I L 0,I L 0,I L 0] 25 (0,0))):=⟨by rw [← hq_];exact (pk_ BK162.out)⟩;have n1_:Aside0 (Below w.heap.size w w3):=⟨by rw [← hq_];exact (pB_ HB.out)⟩;clear BK162 HB hq_;have BK162:=n0_;have HB:=n1_;clear n0_ n1_)))|((with_reducible refine gate_callee (f:=57) rfl ?_);refine goesL_ (some 34) rfl rfl Try.func57 (by kernel_rfl) rfl #[Y A0 l0.length c0,I L 4] rfl Z8 ?_;(with_reducible refine (spec_Be32.calls k _ _ l0 4 t167 t168 _ ?side1 ?side2 A9.out).mono ?_);(case side1=>exact pC_ (Kd.C_below HR0.out HB.out));(case side2=>exact HC0.out);rintro e w' ⟨rfl,⟨nd,rfl⟩⟩;refine ⟨_,rfl,?_⟩;(try (rw [drewN_self w3];generalize hq_:World.drewN w3 _=w3;have n0_:Aside0 (w3.heap[gb162]?=some (.cells #[I L 0,I L 0,I L 0,I L 0,I L 0] 25 (0,0))):=⟨by rw [← hq_];exact (pk_ BK162.out)⟩;have n1_:Aside0 (Below w.heap.size w w3):=⟨by rw [← hq_];exact (pB_ HB.out)⟩;clear BK162 HB hq_;have BK162:=n0_;have HB:=n1_;clear n0_ n1_)))|((with_reducible refine gate_callee (f:=57) rfl ?_);refine goesL_ (some 39) rfl rfl Try.func57 (by kernel_rfl) rfl #[Y A0 l0.length c0,I L 8] rfl Z8 ?_;(with_reducible refine (spec_Be32.calls k _ _ l0 8 t169 t170 _ ?side1 ?side2 A10.out).mono ?_);(case side1=>exact pC_ (Kd.C_below HR0.out HB.out));(case side2=>exact HC0.out);rintro e w' ⟨rfl,⟨nd,rfl⟩⟩;refine ⟨_,rfl,?_⟩;(try (rw [drewN_self w3];generalize hq_:World.drewN w3 _=w3;have n0_:Aside0 (w3.heap[gb162]?=some (.cells #[I L 0,I L 0,I L 0,I L 0,I L 0] 25 (0,0))):=⟨by rw [← hq_];exact (pk_ BK162.out)⟩;have n1_:Aside0 (Below w.heap.size w w3):=⟨by rw [← hq_];exact (pB_ HB.out)⟩;clear BK162 HB hq_;have BK162:=n0_;have HB:=n1_;clear n0_ n1_)))|((with_reducible refine gate_callee (f:=57) rfl ?_);refine goesL_ (some 44) rfl rfl Try.func57 (by kernel_rfl) rfl #[Y A0 l0.length c0,I L 12] rfl Z8 ?_;(with_reducible refine (spec_Be32.calls k _ _ l0 12 t171 t172 _ ?side1 ?side2 A11.out).mono ?_);(case side1=>exact pC_ (Kd.C_below HR0.out HB.out));(case side2=>exact HC0.out);rintro e w' ⟨rfl,⟨nd,rfl⟩⟩;refine ⟨_,rfl,?_⟩;(try (rw [drewN_self w3];generalize hq_:World.drewN w3 _=w3;have n0_:Aside0 (w3.heap[gb162]?=some (.cells #[I L 0,I L 0,I L 0,I L 0,I L 0] 25 (0,0))):=⟨by rw [← hq_];exact (pk_ BK162.out)⟩;have n1_:Aside0 (Below w.heap.size w w3):=⟨by rw [← hq_];exact (pB_ HB.out)⟩;clear BK162 HB hq_;have BK162:=n0_;have HB:=n1_;clear n0_ n1_));have hcz12_0:=cells5 BK162.out))
   refine bodyPost_ret (results_ct rfl _ _ gb162 25 #[I L 6,I L t165,I L t167,I L t169,I L t171] (0,0) _ rfl (by exact pP_ BK162.out) Try.underlying25 rfl (by kernel_rfl)) rfl ?_;exact ⟨er_,pB_ HB.out⟩
  ·rw [if_neg c7] at H
   have c7b0:((l0.length:Int) == 16)=false:=beq_eq_false_iff_ne.mpr c7;have c7b1:((l0.length:Int) != 16)=true:=bne_iff_ne.mpr c7;simp only [Option.some.injEq,Prod.mk.injEq] at H;obtain ⟨rfl,rfl,rfl,rfl,rfl,rfl⟩:=H;have hcz13_0:=cells5 BK162.out
   go_wp2
   refine bodyPost_ret (results_ct rfl _ _ gb162 25 #[I L 0,I L 0,I L 0,I L 0,I L 0] (0,0) _ rfl (by exact pP_ BK162.out) Try.underlying25 rfl (by kernel_rfl)) rfl ?_;exact ⟨er_,pB_ HB.out⟩

end Go.Proofs.Ytjhgkonacdimfaa.PFnTurnedKey
