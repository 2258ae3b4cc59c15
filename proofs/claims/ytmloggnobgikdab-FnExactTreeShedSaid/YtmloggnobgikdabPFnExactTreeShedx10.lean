-- by a program of this session's, over the kit's words
import Derived.Test.YtmloggnobgikdabPZFnExactTreeShed
import Derived.Test.YtmloggnobgikdabPFnExactTreeShedx0
import Derived.Test.YtmloggnobgikdabPFnExactTreeShedx5
import Derived.Test.YtmloggnobgikdabPFnExactTreeShedx6
import Derived.Test.YtmloggnobgikdabPFnExactTreeShedx8
import Derived.Test.YtmloggnobgikdabPFnExactTreeShedx9
namespace Go.Proofs.Ytmloggnobgikdab.PFnExactTreeShed
open Go.RowKit Go.Proofs.YtmloggnobgikdabW.PrintWords Go.Proofs.YtmloggnobgikdabW.PrintLast Go.Proofs.YtmloggnobgikdabW.PrintMore Go.Proofs.YtmloggnobgikdabV Go.Proofs.Ytmloggnobgikdab.ZFnExactTreeShed
open Go.Value renaming int → I, slice → Y
open Go.IntKind renaming i64 → L
open Aside0 renaming mk → D
open Option renaming bind_eq_some_iff → bs_
attribute [local go_sem] max2_int min2_int max_two min_two max_three min_three max_four min_four   -- for this text's walks alone
set_option linter.unusedVariables false
set_option linter.unusedSimpArgs false

/-! ### spec_TreeShed: function 5 -/
def spec_TreeShed.f (k : Nat) (a0_0 a0_1 a0_2 a0_3 : Int) (l0_4 : List (S67)) (l0_5 : List (S50)) (a1 a2 : Int) : Option (Int × Int × Int × Int × (List (S67)) × (List (S50)) × Int) := (spec_TreeOk.f k a0_0 a0_1 a0_2 a0_3 l0_4 l0_5).bind fun t233 => (if t233 = true then ((spec_l20At.f k a0_0 a0_1 a0_2 a0_3 l0_4 l0_5 a1).bind fun t234 => (if t234 < 0 then (some (0, 0, 0, 0, ([] : List (S67)), ([] : List (S50)), 4)) else (if 0 ≤ t234 then (if t234 < (l0_5.length : Int) then ((spec_FairLeave.f k ((rd_T50 l0_5 t234).f1.f0) ((rd_T50 l0_5 t234).f1.f1.f0) ((rd_T50 l0_5 t234).f1.f1.f1) ((rd_T50 l0_5 t234).f1.f1.f2) ((rd_T50 l0_5 t234).f1.f2) a2).bind fun bt236 => (if bt236.2.2.2.2.2 = 0 then ((spec_l20With.f k a0_0 a0_1 a0_2 a0_3 l0_4 l0_5 a0_0 a0_1 a0_2 a0_3 l0_4 t234 bt236.1 bt236.2.1 bt236.2.2.1 bt236.2.2.2.1 bt236.2.2.2.2.1).bind fun bt245 => (some (bt245.1, bt245.2.1, bt245.2.2.1, bt245.2.2.2.1, bt245.2.2.2.2.1, bt245.2.2.2.2.2, 0))) else (some (0, 0, 0, 0, ([] : List (S67)), ([] : List (S50)), bt236.2.2.2.2.2)))) else (none)) else (none)))) else (some (0, 0, 0, 0, ([] : List (S67)), ([] : List (S50)), 1)))
set_option maxHeartbeats 8000000 in
set_option maxRecDepth 100000 in
theorem spec_TreeShed.calls (k : Nat) (a0_0 a0_1 a0_2 a0_3 : Int) (A0_4 : Option Addr) (c0_4 : Nat) (l0_4 : List (S67)) (A0_5 : Option Addr) (c0_5 : Nat) (l0_5 : List (S50)) (a1 a2 r1 r2 r3 r4 : Int) (r5 : List (S67)) (r6 : List (S50)) (r7 : Int) (w : World) (hr0_4 : Kd.C k67 w A0_4 l0_4.length l0_4) (hc0_4 : l0_4.length ≤ c0_4) (hr0_5 : Kd.C k50 w A0_5 l0_5.length l0_5) (hc0_5 : l0_5.length ≤ c0_5) (h : spec_TreeShed.f k a0_0 a0_1 a0_2 a0_3 l0_4 l0_5 a1 a2 = some (r1, r2, r3, r4, r5, r6, r7)) :
  Calls Try.prog 5 #[.agg #[I L a0_0,I L a0_1,I L a0_2,I L a0_3,Y A0_4 l0_4.length c0_4,Y A0_5 l0_5.length c0_5],I L a1,I L a2] w fun e w'=>∃ v4_ v5_:Value,e=.returned (.tuple #[.agg #[I L r1,I L r2,I L r3,I L r4,v4_,v5_],I L r7])∧Kd.R k67 67 w' w.heap.size (fun _=>True) v4_ r5∧Kd.S k50 50 w' w.heap.size (fun k_=>some k_≠(v4_:Value).ownBlock) v5_ r6∧Below w.heap.size w w':=by
 have hu37 := Try.underlying37
 have hu34 := Try.underlying34
 have HR0_4 := D hr0_4
 have HC0_4 := D hc0_4
 clear hr0_4 hc0_4
 have HR0_5 := D hr0_5
 have HC0_5 := D hc0_5
 clear hr0_5 hc0_5
 have HB := D (Below.refl w.heap.size w)
 have H:((spec_TreeOk.f k a0_0 a0_1 a0_2 a0_3 l0_4 l0_5).bind fun Je=>(if Je=true then ((spec_l20At.f k a0_0 a0_1 a0_2 a0_3 l0_4 l0_5 a1).bind fun Ma=>(if Ma < 0 then (some (0,0,0,0,([]:List (S67)),([]:List (S50)),4)) else (if 0≤Ma then (if Ma < (l0_5.length:Int) then ((spec_FairLeave.f k ((rd_T50 l0_5 Ma).f1.f0) ((rd_T50 l0_5 Ma).f1.f1.f0) ((rd_T50 l0_5 Ma).f1.f1.f1) ((rd_T50 l0_5 Ma).f1.f1.f2) ((rd_T50 l0_5 Ma).f1.f2) a2).bind fun bt236=>(if bt236.2.2.2.2.2=0 then ((spec_l20With.f k a0_0 a0_1 a0_2 a0_3 l0_4 l0_5 a0_0 a0_1 a0_2 a0_3 l0_4 Ma bt236.1 bt236.2.1 bt236.2.2.1 bt236.2.2.2.1 bt236.2.2.2.2.1).bind fun bt245=>(some (bt245.1,bt245.2.1,bt245.2.2.1,bt245.2.2.2.1,bt245.2.2.2.2.1,bt245.2.2.2.2.2,0))) else (some (0,0,0,0,([]:List (S67)),([]:List (S50)),bt236.2.2.2.2.2)))) else (none)) else (none)))) else (some (0,0,0,0,([]:List (S67)),([]:List (S50)),1))))=some (r1,r2,r3,r4,r5,r6,r7):=h
 clear h
 obtain ⟨Je, A40, H⟩ := bs_.mp H
 (try dsimp only at H)
 have A4 := D A40
 clear A40
 have HU5 := D H
 clear H
 go_enter Try.func5, Try.ntmps5
 go_upto_if 13 with (first|((with_reducible refine gate_dst (N:=3) rfl ?_);refine bx_ (N:=3) (cs:=#[I L a0_0,I L a0_1,I L a0_2,I L a0_3,Y A0_4 l0_4.length c0_4,Y A0_5 l0_5.length c0_5]) (t:=37) ?_;intro Jb hg w6 hbox hb;have n_:=an_ (below_step (pB_ HB.out) hb)<|an_ (hbox)<|an_ (bg_ hg (pB_ HB.out):w.heap.size≤Jb)<|D (bg_ hg (pB_ HB.out):w.heap.size≤Jb);clear HB;obtain ⟨HB,Ka,Jg,Kg⟩:=n_;clear hb hbox hg)|((with_reducible refine gate_dst (N:=6) rfl ?_);refine bx_ (N:=6) (cs:=#[I L 0,I L 0,I L 0,I L 0,Y none 0 0,Y none 0 0]) (t:=37) ?_;intro Oa hg w7 hbox hb;have n_:=an_ (blk_below (pk_ Ka.out) hb)<|an_ (below_step (pB_ HB.out) hb)<|an_ (hbox)<|an_ (bg_ hg (pB_ HB.out):w.heap.size≤Oa)<|an_ (bg_ hg (pB_ HB.out):w.heap.size≤Oa)<|an_ (nl_ hg (pk_ Ka.out):Jb≠Oa)<|D (by rw [hg];exact Nat.ne_of_gt (blk_lt (pk_ Ka.out)):Oa≠Jb);clear Ka HB;obtain ⟨Ka,HB,Ja,Mg,Og,Kc,Mc⟩:=n_;clear hb hbox hg;(try have:=Kc.out);(try have:=Mc.out);have Ug:=cells6 Ka.out)|((with_reducible refine gate_callee (f:=13) rfl ?_);refine goesL_ (some 12) rfl rfl Try.func13 (by kernel_rfl) rfl #[.agg #[I L a0_0,I L a0_1,I L a0_2,I L a0_3,Y A0_4 l0_4.length c0_4,Y A0_5 l0_5.length c0_5]] rfl Z14 ?_;(with_reducible refine (spec_TreeOk.calls k a0_0 a0_1 a0_2 a0_3 _ _ l0_4 _ _ l0_5 Je _ ?side1 ?side2 ?side3 ?side4 A4.out).mono ?_);(case side1=>exact pC_ (Kd.C_below HR0_4.out HB.out));(case side2=>exact HC0_4.out);(case side3=>exact pC_ (Kd.C_below HR0_5.out HB.out));(case side4=>exact HC0_5.out);rintro e w10 ⟨rfl,hb⟩;refine ⟨_,rfl,?_⟩;have n_:=an_ (blk_below (pk_ Ka.out) hb)<|an_ (blk_below (pk_ Ja.out) hb)<|D (below_step (pB_ HB.out) hb);clear Ka Ja HB;obtain ⟨Ka,Ja,HB⟩:=n_;(try clear hb)))
 have H := HU5.out
 clear HU5
 by_cases c11 : Je = true
 ·subst c11
  rw [if_pos rfl] at H;obtain ⟨Ma,A120,H⟩:=bs_.mp H;(try dsimp only at H);have A12:=D A120;clear A120;have HU13:=D H;clear H;(try have:=Kc.out);(try have:=Mc.out);have Ui:=cells6 Ka.out
  go_upto_if 19 with (first|((with_reducible refine gate_callee (f:=14) rfl ?_);refine goesL_ (some 17) rfl rfl Try.func14 (by kernel_rfl) rfl #[.agg #[I L a0_0,I L a0_1,I L a0_2,I L a0_3,Y A0_4 l0_4.length c0_4,Y A0_5 l0_5.length c0_5],I L a1] rfl Z14 ?_;(with_reducible refine (spec_l20At.calls k a0_0 a0_1 a0_2 a0_3 _ _ l0_4 _ _ l0_5 a1 Ma _ ?side1 ?side2 ?side3 ?side4 A12.out).mono ?_);(case side1=>exact pC_ (Kd.C_below HR0_4.out HB.out));(case side2=>exact HC0_4.out);(case side3=>exact pC_ (Kd.C_below HR0_5.out HB.out));(case side4=>exact HC0_5.out);rintro e w16 ⟨rfl,hb⟩;refine ⟨_,rfl,?_⟩;have n_:=an_ (blk_below (pk_ Ka.out) hb)<|an_ (blk_below (pk_ Ja.out) hb)<|D (below_step (pB_ HB.out) hb);clear Ka Ja HB;obtain ⟨Ka,Ja,HB⟩:=n_;(try clear hb)))
  have H := HU13.out; clear HU13
  by_cases c17 : Ma < 0
  ·rw [if_pos c17] at H
   have c17b0:decide (Ma < 0)=true:=decide_eq_true c17;clear c17;refine rw_ c17b0 ?_;simp only [Option.some.injEq,Prod.mk.injEq] at H;obtain ⟨rfl,rfl,rfl,rfl,rfl,rfl,rfl⟩:=H;(try have:=Mc.out);(try have:=Kc.out);have Uk:=cells6 Ja.out
   go_wp2
   refine bodyPost_ret (results_ct rfl _ _ Oa 37 #[I L 0,I L 0,I L 0,I L 0,Y none 0 0,Y none 0 0] (0,0) _ rfl Z3 Try.underlying37 rfl (by kernel_rfl)) rfl ?_;exact ⟨_,_,er_,by first|exact Kd.R_nil _ _ _ _ _|exact Kd.N_nil _ _ _ _ _|exact Kd.V_nil _ _ _ _ _|exact Kd.Q_nil _ _ _ _ _|exact Kd.S_nil _ _ _ _ _,by first|exact Kd.S_nil _ _ _ _ _|exact Kd.N_nil _ _ _ _ _|exact Kd.V_nil _ _ _ _ _|exact Kd.Q_nil _ _ _ _ _|exact Kd.R_nil _ _ _ _ _,pB_ HB.out⟩
  ·rw [if_neg c17] at H
   have c17b0:decide (Ma < 0)=false:=decide_eq_false c17;clear c17;refine rw_ c17b0 ?_
   by_cases c20 : 0 ≤ Ma
   ·rw [if_pos c20] at H
    have c20b0 : decide (0 ≤ Ma) = true := decide_eq_true c20; clear c20
    by_cases c21 : Ma < (l0_5.length : Int)
    ·rw [if_pos c21] at H
     have c21b0:decide (Ma < (l0_5.length:Int))=true:=decide_eq_true c21;clear c21;obtain ⟨⟨Mb,Ub,Oc,Md,Uc,Od⟩,A220,H⟩:=bs_.mp H;(try dsimp only at H);have A22:=D A220;clear A220;have HU23:=D H;clear H;(try have:=Kc.out);(try have:=Mc.out);have Un:=cells6 Ka.out;have p235:0≤(Ma:Int):=od_ Z50;have q235:Ma < (l0_5.length:Int):=od_ Z50;obtain ⟨ad235,A235_5,c235_5,e235,hx235_0,hx235_1,hx235_2,hx235_3,hx235_4,hx235_5,hl235_5,hi235_5⟩:=at_T50 HR0_5.out Ma p235 q235;cases e235;replace hx235_0:=rc_ HB.out hx235_0;replace hx235_1:=rc_ HB.out hx235_1;replace hx235_2:=rc_ HB.out hx235_2;replace hx235_3:=rc_ HB.out hx235_3;replace hx235_4:=rc_ HB.out hx235_4;replace hx235_5:=rc_ HB.out hx235_5;have HR235_5:=D hi235_5;have HC235_5:=D hl235_5;clear hi235_5 hl235_5;replace p235:=eq_true p235;replace q235:=eq_true q235
     go_upto_if 33 with (first|((with_reducible refine gate_callee (f:=15) rfl ?_);refine goesL_ (some 29) rfl rfl Try.func15 (by kernel_rfl) rfl #[.agg #[I L ((rd_T50 l0_5 Ma).f1.f0),I L ((rd_T50 l0_5 Ma).f1.f1.f0),I L ((rd_T50 l0_5 Ma).f1.f1.f1),I L ((rd_T50 l0_5 Ma).f1.f1.f2),Y A235_5 ((rd_T50 l0_5 Ma).f1.f2).length c235_5],I L a2] rfl Z14 ?_;(with_reducible refine (spec_FairLeave.calls k ((rd_T50 l0_5 Ma).f1.f0) ((rd_T50 l0_5 Ma).f1.f1.f0) ((rd_T50 l0_5 Ma).f1.f1.f1) ((rd_T50 l0_5 Ma).f1.f1.f2) _ _ ((rd_T50 l0_5 Ma).f1.f2) a2 Mb Ub Oc Md Uc Od _ ?side1 ?side2 A22.out).mono ?_);(case side1=>exact pC_ (Kd.C_below HR235_5.out HB.out));(case side2=>exact HC235_5.out);rintro e w26 ⟨Up,rfl,ho0,hb⟩;refine ⟨_,rfl,?_⟩;have n_:=an_ (Kd.R_lower ho0 (below_size (pB_ HB.out)))<|an_ (blk_below (pk_ Ka.out) hb)<|an_ (blk_below (pk_ Ja.out) hb)<|D (below_step (pB_ HB.out) hb);clear Ka Ja HB;obtain ⟨Xa,Ka,Ja,HB⟩:=n_;(try clear hb);(try clear ho0))|((with_reducible refine gate_dst (N:=9) rfl ?_);refine bx_ (N:=9) (cs:=#[I L 0,I L 0,I L 0,I L 0,Y none 0 0]) (t:=34) ?_;intro Kb hg w27 hbox hb;have n_:=an_ (Kd.R_below (pR_ Xa.out) hb)<|an_ (blk_below (pk_ Ka.out) hb)<|an_ (blk_below (pk_ Ja.out) hb)<|an_ (below_step (pB_ HB.out) hb)<|an_ (hbox)<|an_ (bg_ hg (pB_ HB.out):w.heap.size≤Kb)<|an_ (bg_ hg (pB_ HB.out):w.heap.size≤Kb)<|an_ (nl_ hg (pk_ Ka.out):Jb≠Kb)<|an_ (ng_ hg (pk_ Ka.out):Kb≠Jb)<|an_ (nl_ hg (pk_ Ja.out):Oa≠Kb)<|D (by rw [hg];exact Nat.ne_of_gt (blk_lt (pk_ Ja.out)):Kb≠Oa);clear Xa Ka Ja HB;obtain ⟨Xa,Ka,Ja,HB,Ua,Xp,Jq,Xc,Of,Xb,Jf⟩:=n_;clear hb hbox hg;(try have:=Of.out);(try have:=Xc.out);(try have:=Jf.out);(try have:=Xb.out);have Kq:=cells5 Ua.out;obtain ⟨Ke,Me,eo31⟩:=Kd.R_slice Xa.out;subst eo31))
     refine relet_ (F:=fun w32=>Aside0 (Kd.R k67 67 w32 w.heap.size (fun _=>True) (Y Ke Uc.length Me) Uc)∧Aside0 (w32.heap[Jb]?=some (.cells #[I L a0_0,I L a0_1,I L a0_2,I L a0_3,Y A0_4 l0_4.length c0_4,Y (some ad235) l0_5.length c0_5] 37 (0,0)))∧Aside0 (w32.heap[Oa]?=some (.cells #[I L 0,I L 0,I L 0,I L 0,Y none 0 0,Y none 0 0] 37 (0,0)))∧Aside0 (w32.heap[Kb]?=some (.cells #[I L Mb,I L Ub,I L Oc,I L Md,Y Ke Uc.length Me] 34 (0,0)))∧Aside0 (Below w.heap.size w w32)) ⟨⟨rM_ (Kd.R_types Xa.out Ua.out (by decide)) (fun _ hk=>trivial)⟩,⟨pP_ Ka.out⟩,⟨pP_ Ja.out⟩,⟨pP_ Ua.out⟩,⟨pB_ HB.out⟩⟩ ?_;(try clear Xa);(try clear Ka);(try clear Ja);(try clear Ua);(try clear HB);rintro w32 ⟨Xa,Ka,Ja,Ua,HB⟩;have H:=HU23.out;clear HU23
     by_cases c33 : Od = 0
     ·rw [if_pos c33] at H
      have c33b0:(Od == 0)=true:=beq_iff_eq.mpr c33;have c33b1:(Od != 0)=false:=bne_eq_false_iff_eq.mpr c33;clear c33;refine rw_ c33b0 ?_;obtain ⟨⟨Ob,Jc,Jd,Ud,Xd,Oe⟩,A340,H⟩:=bs_.mp H;(try dsimp only at H);have A34:=D A340;clear A340;simp only [Option.some.injEq,Prod.mk.injEq] at H;obtain ⟨rfl,rfl,rfl,rfl,rfl,rfl,rfl⟩:=H;(try have:=Kc.out);(try have:=Mc.out);(try have:=Xc.out);(try have:=Of.out);have Xr:=cells6 Ka.out;(try have:=Jf.out);(try have:=Xb.out);have Xu:=cells5 Ua.out
      go_wp2_with (first|((with_reducible refine gate_callee (f:=16) rfl ?_);refine goesL_ (some 41) rfl rfl Try.func16 (by kernel_rfl) rfl #[.agg #[I L a0_0,I L a0_1,I L a0_2,I L a0_3,Y A0_4 l0_4.length c0_4,Y (some ad235) l0_5.length c0_5],.agg #[I L a0_0,I L a0_1,I L a0_2,I L a0_3,Y A0_4 l0_4.length c0_4],I L Ma,.agg #[I L Mb,I L Ub,I L Oc,I L Md,Y Ke Uc.length Me]] rfl Z14 ?_;(with_reducible refine (spec_l20With.calls k a0_0 a0_1 a0_2 a0_3 _ _ l0_4 _ _ l0_5 a0_0 a0_1 a0_2 a0_3 _ _ l0_4 Ma Mb Ub Oc Md _ _ Uc Ob Jc Jd Ud Xd Oe _ ?side1 ?side2 ?side3 ?side4 ?side5 ?side6 ?side7 ?side8 A34.out).mono ?_);(case side1=>exact pC_ (Kd.C_below HR0_4.out HB.out));(case side2=>exact HC0_4.out);(case side3=>exact pC_ (Kd.C_below HR0_5.out HB.out));(case side4=>exact HC0_5.out);(case side5=>exact pC_ (Kd.C_below HR0_4.out HB.out));(case side6=>exact HC0_4.out);(case side7=>exact pC_ ((Kd.R_reads' Xa.out).2.2));(case side8=>exact (Kd.R_reads' Xa.out).2.1);rintro e w40 ⟨Ox,Ux,rfl,ho0,ho1,hb⟩;refine ⟨_,rfl,?_⟩;have n_:=an_ (Kd.R_elder' (pR_ Xa.out) (Kd.R_base ho0) hb)<|an_ (Kd.R_lower (nw_ ho0 (pR_ Xa.out)) (below_size (pB_ HB.out)))<|an_ (Kd.S_lower (Kd.S_new' ho1 (Kd.R_lt (pR_ Xa.out))) (below_size (pB_ HB.out)))<|an_ (blk_below (pk_ Ka.out) hb)<|an_ (blk_below (pk_ Ja.out) hb)<|an_ (blk_below (pk_ Ua.out) hb)<|D (below_step (pB_ HB.out) hb);clear Xa Ka Ja Ua HB;obtain ⟨Xa,Uf,Xf,Ka,Ja,Ua,HB⟩:=n_;(try clear hb);(try clear ho0);(try clear ho1);have Xx:=cells6 Ja.out;obtain ⟨Ue,Xe,eo42⟩:=Kd.R_slice Uf.out;subst eo42;obtain ⟨Kf,Mf,eo43⟩:=Kd.S_slice Xf.out;subst eo43))
      refine bodyPost_ret (results_ct rfl _ _ Oa 37 #[I L Ob,I L Jc,I L Jd,I L Ud,Y Ue Xd.length Xe,Y Kf Oe.length Mf] (0,0) _ rfl (by exact pP_ Ja.out) Try.underlying37 rfl (by kernel_rfl)) rfl ?_;exact ⟨_,_,er_,by (with_reducible repeat (first|apply Kd.R_alloc|apply Kd.R_drewN|apply Kd.R_drew));exact Kd.R_mono (fr_ (fr_ (fr_ (fr_ (fr_ (fr_ (Kd.R_types Uf.out Ja.out (by decide)) 0 (I L Ob)) 1 (I L Jc)) 2 (I L Jd)) 3 (I L Ud)) 4 (Y Ue Xd.length Xe)) 5 (Y Kf Oe.length Mf)) (fun _ hk=>trivial),by (with_reducible repeat (first|apply Kd.S_alloc|apply Kd.S_drewN|apply Kd.S_drew));exact Kd.S_mono (Kd.S_far (p:=⟨Oa,5,none⟩) (Kd.S_far (p:=⟨Oa,4,none⟩) (Kd.S_far (p:=⟨Oa,3,none⟩) (Kd.S_far (p:=⟨Oa,2,none⟩) (Kd.S_far (p:=⟨Oa,1,none⟩) (Kd.S_far (p:=⟨Oa,0,none⟩) (Kd.S_types Xf.out Ja.out (by decide)) (fun _ hk=>hk.2) (I L Ob)) (fun _ hk=>hk.2) (I L Jc)) (fun _ hk=>hk.2) (I L Jd)) (fun _ hk=>hk.2) (I L Ud)) (fun _ hk=>hk.2) (Y Ue Xd.length Xe)) (fun _ hk=>hk.2) (Y Kf Oe.length Mf)) (fun _ hk=>hk.1.1),pB_ HB.out⟩
     ·rw [if_neg c33] at H
      have c33b0:(Od == 0)=false:=beq_eq_false_iff_ne.mpr c33;have c33b1:(Od != 0)=true:=bne_iff_ne.mpr c33;refine rw_ c33b0 ?_;simp only [Option.some.injEq,Prod.mk.injEq] at H;obtain ⟨rfl,rfl,rfl,rfl,rfl,rfl,rfl⟩:=H;(try have:=Mc.out);(try have:=Kc.out);(try have:=Xb.out);(try have:=Jf.out);have Xz:=cells6 Ja.out
      go_wp2
      refine bodyPost_ret (results_ct rfl _ _ Oa 37 #[I L 0,I L 0,I L 0,I L 0,Y none 0 0,Y none 0 0] (0,0) _ rfl Z3 Try.underlying37 rfl (by kernel_rfl)) rfl ?_;exact ⟨_,_,er_,by first|exact Kd.R_nil _ _ _ _ _|exact Kd.N_nil _ _ _ _ _|exact Kd.V_nil _ _ _ _ _|exact Kd.Q_nil _ _ _ _ _|exact Kd.S_nil _ _ _ _ _,by first|exact Kd.S_nil _ _ _ _ _|exact Kd.N_nil _ _ _ _ _|exact Kd.V_nil _ _ _ _ _|exact Kd.Q_nil _ _ _ _ _|exact Kd.R_nil _ _ _ _ _,pB_ HB.out⟩
    ·rw [if_neg c21] at H
     exact absurd H (by simp)
   ·rw [if_neg c20] at H
    exact absurd H (by simp)
 ·replace c11 := Bool.eq_false_iff.mpr c11
  subst c11;rw [if_neg (show ¬ (false=true) by decide)] at H;simp only [Option.some.injEq,Prod.mk.injEq] at H;obtain ⟨rfl,rfl,rfl,rfl,rfl,rfl,rfl⟩:=H;(try have:=Mc.out);(try have:=Kc.out);have Xb1:=cells6 Ja.out
  go_wp2
  refine bodyPost_ret (results_ct rfl _ _ Oa 37 #[I L 0,I L 0,I L 0,I L 0,Y none 0 0,Y none 0 0] (0,0) _ rfl Z3 Try.underlying37 rfl (by kernel_rfl)) rfl ?_;exact ⟨_,_,er_,by first|exact Kd.R_nil _ _ _ _ _|exact Kd.N_nil _ _ _ _ _|exact Kd.V_nil _ _ _ _ _|exact Kd.Q_nil _ _ _ _ _|exact Kd.S_nil _ _ _ _ _,by first|exact Kd.S_nil _ _ _ _ _|exact Kd.N_nil _ _ _ _ _|exact Kd.V_nil _ _ _ _ _|exact Kd.Q_nil _ _ _ _ _|exact Kd.R_nil _ _ _ _ _,pB_ HB.out⟩

/-! ### laws_toVec: function 36 -/
def laws_toVec.f (a0_0 a0_1 a0_2 : Int) : Option (Int × Int × Int) := some (a0_0, a0_1, a0_2)
set_option maxHeartbeats 8000000 in
set_option maxRecDepth 100000 in
theorem laws_toVec.calls (a0_0 a0_1 a0_2 r1 r2 r3 : Int) (w : World) (h : laws_toVec.f a0_0 a0_1 a0_2 = some (r1, r2, r3)) :
  Calls Try.prog 36 #[.agg #[I L a0_0, I L a0_1, I L a0_2]] w fun e w' => e = .returned (.agg #[I L r1, I L r2, I L r3]) ∧ Below w.heap.size w w' := by
 have hu23 := Try.underlying23
 have hu31 := Try.underlying31
 have HB := D (Below.refl w.heap.size w)
 have H : (some (a0_0, a0_1, a0_2)) = some (r1, r2, r3) := h
 clear h
 simp only [Option.some.injEq, Prod.mk.injEq] at H
 obtain ⟨rfl, rfl, rfl⟩ := H
 go_enter Try.func36, Try.ntmps36
 go_wp2_with (first|((with_reducible refine gate_dst (N:=1) rfl ?_);refine bx_ (N:=1) (cs:=#[I L a0_0,I L a0_1,I L a0_2]) (t:=23) ?_;intro gb255 hg w2 hbox hb;have n_:=an_ (below_step (pB_ HB.out) hb)<|an_ (hbox)<|an_ (bg_ hg (pB_ HB.out):w.heap.size≤gb255)<|D (bg_ hg (pB_ HB.out):w.heap.size≤gb255);clear HB;obtain ⟨HB,BK255,GW255,GE255⟩:=n_;clear hb hbox hg)|((with_reducible refine gate_dst (N:=2) rfl ?_);refine bx_ (N:=2) (cs:=#[I L 0,I L 0,I L 0]) (t:=31) ?_;intro gb256 hg w3 hbox hb;have n_:=an_ (blk_below (pk_ BK255.out) hb)<|an_ (below_step (pB_ HB.out) hb)<|an_ (hbox)<|an_ (bg_ hg (pB_ HB.out):w.heap.size≤gb256)<|an_ (bg_ hg (pB_ HB.out):w.heap.size≤gb256)<|an_ (nl_ hg (pk_ BK255.out):gb255≠gb256)<|D (by rw [hg];exact Nat.ne_of_gt (blk_lt (pk_ BK255.out)):gb256≠gb255);clear BK255 HB;obtain ⟨BK255,HB,BK256,GW256,GE256,NB255_256,NB256_255⟩:=n_;clear hb hbox hg)|((with_reducible refine gate_dst (N:=3) rfl ?_);refine bx_ (N:=3) (cs:=#[I L 0,I L 0,I L 0]) (t:=31) ?_;intro gb257 hg w4 hbox hb;have n_:=an_ (blk_below (pk_ BK255.out) hb)<|an_ (blk_below (pk_ BK256.out) hb)<|an_ (below_step (pB_ HB.out) hb)<|an_ (hbox)<|an_ (bg_ hg (pB_ HB.out):w.heap.size≤gb257)<|an_ (bg_ hg (pB_ HB.out):w.heap.size≤gb257)<|an_ (nl_ hg (pk_ BK255.out):gb255≠gb257)<|an_ (ng_ hg (pk_ BK255.out):gb257≠gb255)<|an_ (nl_ hg (pk_ BK256.out):gb256≠gb257)<|D (by rw [hg];exact Nat.ne_of_gt (blk_lt (pk_ BK256.out)):gb257≠gb256);clear BK255 BK256 HB;obtain ⟨BK255,BK256,HB,BK257,GW257,GE257,NB255_257,NB257_255,NB256_257,NB257_256⟩:=n_;clear hb hbox hg;(try have:=NB255_256.out);(try have:=NB256_255.out);(try have:=NB255_257.out);(try have:=NB257_255.out);have hcz7_0:=cells3 BK255.out;(try have:=NB257_256.out);(try have:=NB256_257.out);have hcz9_0:=cells3 BK257.out;have hcz10_0:=cells3 BK256.out))
 refine bodyPost_ret (results_cell_row rfl _ _ gb256 31 #[I L a0_0,I L a0_1,I L a0_2] (0,0) _ rfl (by exact pP_ BK256.out) Try.underlying31 rfl (by kernel_rfl)) rfl ?_
 exact ⟨er_, pB_ HB.out⟩

/-! ### laws_toKid: function 55 -/
def laws_toKid.f (a0_0 a0_1 : Int) (a0_2 : Bool) (a0_3 a0_4 a0_5 : Int) : Option (Int × Int × Bool × Int × Int × Int) := (laws_toVec.f a0_3 a0_4 a0_5).bind fun bt261 => (some (a0_0, a0_1, a0_2, bt261.1, bt261.2.1, bt261.2.2))
set_option maxHeartbeats 8000000 in
set_option maxRecDepth 100000 in
theorem laws_toKid.calls (a0_0 a0_1 : Int) (a0_2 : Bool) (a0_3 a0_4 a0_5 r1 r2 : Int) (r3 : Bool) (r4 r5 r6 : Int) (w : World) (h : laws_toKid.f a0_0 a0_1 a0_2 a0_3 a0_4 a0_5 = some (r1, r2, r3, r4, r5, r6)) :
  Calls Try.prog 55 #[.agg #[I L a0_0,I L a0_1,.bool a0_2,I L a0_3,I L a0_4,I L a0_5]] w fun e w'=>e=.returned (.agg #[I L r1,I L r2,.bool r3,I L r4,I L r5,I L r6])∧Below w.heap.size w w':=by
 have hu89 := Try.underlying89
 have hu67 := Try.underlying67
 have hu23 := Try.underlying23
 have hu31 := Try.underlying31
 have HB := D (Below.refl w.heap.size w)
 have H : ((laws_toVec.f a0_3 a0_4 a0_5).bind fun bt261 => (some (a0_0, a0_1, a0_2, bt261.1, bt261.2.1, bt261.2.2))) = some (r1, r2, r3, r4, r5, r6) := h
 clear h
 obtain ⟨⟨t261, t262, t263⟩, A20, H⟩ := bs_.mp H
 (try dsimp only at H)
 have A2 := D A20
 clear A20
 simp only [Option.some.injEq, Prod.mk.injEq] at H
 obtain ⟨rfl, rfl, rfl, rfl, rfl, rfl⟩ := H
 go_enter Try.func55, Try.ntmps55
 go_wp2_with (first|((with_reducible refine gate_dst (N:=1) rfl ?_);refine bx_ (N:=1) (cs:=#[I L a0_0,I L a0_1,.bool a0_2,I L a0_3,I L a0_4,I L a0_5]) (t:=89) ?_;intro gb258 hg w3 hbox hb;have n_:=an_ (below_step (pB_ HB.out) hb)<|an_ (hbox)<|an_ (bg_ hg (pB_ HB.out):w.heap.size≤gb258)<|D (bg_ hg (pB_ HB.out):w.heap.size≤gb258);clear HB;obtain ⟨HB,BK258,GW258,GE258⟩:=n_;clear hb hbox hg)|((with_reducible refine gate_dst (N:=2) rfl ?_);refine bx_ (N:=2) (cs:=#[I L 0,I L 0,.bool false,I L 0,I L 0,I L 0]) (t:=67) ?_;intro gb259 hg w4 hbox hb;have n_:=an_ (blk_below (pk_ BK258.out) hb)<|an_ (below_step (pB_ HB.out) hb)<|an_ (hbox)<|an_ (bg_ hg (pB_ HB.out):w.heap.size≤gb259)<|an_ (bg_ hg (pB_ HB.out):w.heap.size≤gb259)<|an_ (nl_ hg (pk_ BK258.out):gb258≠gb259)<|D (by rw [hg];exact Nat.ne_of_gt (blk_lt (pk_ BK258.out)):gb259≠gb258);clear BK258 HB;obtain ⟨BK258,HB,BK259,GW259,GE259,NB258_259,NB259_258⟩:=n_;clear hb hbox hg)|((with_reducible refine gate_dst (N:=3) rfl ?_);refine bx_ (N:=3) (cs:=#[I L 0,I L 0,.bool false,I L 0,I L 0,I L 0]) (t:=67) ?_;intro gb260 hg w5 hbox hb;have n_:=an_ (blk_below (pk_ BK258.out) hb)<|an_ (blk_below (pk_ BK259.out) hb)<|an_ (below_step (pB_ HB.out) hb)<|an_ (hbox)<|an_ (bg_ hg (pB_ HB.out):w.heap.size≤gb260)<|an_ (bg_ hg (pB_ HB.out):w.heap.size≤gb260)<|an_ (nl_ hg (pk_ BK258.out):gb258≠gb260)<|an_ (ng_ hg (pk_ BK258.out):gb260≠gb258)<|an_ (nl_ hg (pk_ BK259.out):gb259≠gb260)<|D (by rw [hg];exact Nat.ne_of_gt (blk_lt (pk_ BK259.out)):gb260≠gb259);clear BK258 BK259 HB;obtain ⟨BK258,BK259,HB,BK260,GW260,GE260,NB258_260,NB260_258,NB259_260,NB260_259⟩:=n_;clear hb hbox hg;(try have:=NB258_259.out);(try have:=NB259_258.out);(try have:=NB258_260.out);(try have:=NB260_258.out);have hcz8_0:=cells6 BK258.out;(try have:=NB260_259.out);(try have:=NB259_260.out);have hcz10_0:=cells6 BK260.out)|((with_reducible refine gate_callee (f:=36) rfl ?_);refine goesL_ (some 15) rfl rfl Try.func36 (by kernel_rfl) rfl #[.agg #[I L a0_3,I L a0_4,I L a0_5]] rfl Z14 ?_;(with_reducible refine (laws_toVec.calls a0_3 a0_4 a0_5 t261 t262 t263 _ A2.out).mono ?_);rintro e w11 ⟨rfl,hb⟩;refine ⟨_,rfl,?_⟩;have n_:=an_ (blk_below (g:=gb258) (o:=.cells #[I L a0_0,I L a0_1,.bool a0_2,I L a0_3,I L a0_4,I L a0_5] 89 (0,0)) (by exact pP_ BK258.out) hb)<|an_ (blk_below (g:=gb259) (o:=.cells #[I L 0,I L 0,.bool false,I L 0,I L 0,I L 0] 67 (0,0)) (by exact pP_ BK259.out) hb)<|an_ (blk_below (g:=gb260) (o:=.cells #[I L a0_0,I L a0_1,.bool a0_2,I L 0,I L 0,I L 0] 67 (0,0)) (by exact pP_ BK260.out) hb)<|D (below_step (pB_ HB.out) hb);clear BK258 BK259 BK260 HB;obtain ⟨BK258,BK259,BK260,HB⟩:=n_;(try clear hb);have hcz12_0:=cells6 BK260.out;have hcz13_0:=cells6 BK259.out))
 refine bodyPost_ret (results_cell_row rfl _ _ gb259 67 #[I L a0_0,I L a0_1,.bool a0_2,I L t261,I L t262,I L t263] (0,0) _ rfl (by exact pP_ BK259.out) Try.underlying67 rfl (by kernel_rfl)) rfl ?_
 exact ⟨er_, pB_ HB.out⟩

/-! ### laws_toKidS: function 37 -/
def laws_toKidS.l0 : Nat → List (S89) → List (S67) → Int → Option ((List (S67)))
 | 0, _, _, _ => none
 | k + 1,x0,x3,x4=>if x4 < (x0.length:Int) then (if 0≤x4 then ((laws_toKid.f ((rd_T89 x0 x4).f0) ((rd_T89 x0 x4).f1) ((rd_T89 x0 x4).f2) ((rd_T89 x0 x4).f3.f0) ((rd_T89 x0 x4).f3.f1) ((rd_T89 x0 x4).f3.f2)).bind fun bt268=>(if x4 < (x3.length:Int) then (laws_toKidS.l0 k x0 (x3.set (x4:Int).toNat (⟨bt268.1,bt268.2.1,bt268.2.2.1,(⟨bt268.2.2.2.1,bt268.2.2.2.2.1,bt268.2.2.2.2.2⟩:S31)⟩:S67)) (wrap64 (x4 + 1))) else (none))) else (none)) else (some x3)
def laws_toKidS.f (k : Nat) (l0 : List (S89)) : Option ((List (S67))) := if 0 ≤ (l0.length : Int) then (if ((l0.length : Int) : Int).toNat ≤ 5864062014805 then (laws_toKidS.l0 k l0 (List.replicate ((l0.length : Int) : Int).toNat z67) 0) else (none)) else (none)
set_option maxHeartbeats 8000000 in
set_option maxRecDepth 100000 in
theorem laws_toKidS.calls (k : Nat) (A0 : Option Addr) (c0 : Nat) (l0 : List (S89)) (r : List (S67)) (w : World) (hr0 : Kd.C k89 w A0 l0.length l0) (hc0 : l0.length ≤ c0) (h : laws_toKidS.f k l0 = some r) :
  Calls Try.prog 37 #[Y A0 l0.length c0] w fun e w' => ∃ v0_ : Value, e = .returned (v0_) ∧ Kd.R k67 67 w' w.heap.size (fun _ => True) v0_ r ∧ Below w.heap.size w w' := by
 have hu89 := Try.underlying89
 have hu67 := Try.underlying67
 have HR0 := D hr0
 have HC0 := D hc0
 clear hr0 hc0
 have HB := D (Below.refl w.heap.size w)
 have H:(if 0≤(l0.length:Int) then (if ((l0.length:Int):Int).toNat≤5864062014805 then (laws_toKidS.l0 k l0 (List.replicate ((l0.length:Int):Int).toNat z67) 0) else (none)) else (none))=some r:=h
 clear h
 by_cases c2 : 0 ≤ (l0.length : Int)
 ·rw [if_pos c2] at H
  have c2b0 := eq_true c2; have c2b1 : decide (0 ≤ (l0.length : Int)) = true := decide_eq_true c2; clear c2
  by_cases c3 : ((l0.length : Int) : Int).toNat ≤ 5864062014805
  ·rw [if_pos c3] at H
   have c3b0:=eq_true c3;have c3b1:decide (((l0.length:Int):Int).toNat≤5864062014805)=true:=decide_eq_true c3;clear c3;obtain ⟨y264,hy264⟩:∃ y_:List (S67),y_=(List.replicate ((l0.length:Int):Int).toNat z67):=⟨_,rfl⟩
   replace H:(laws_toKidS.l0 k l0 y264 0)=some r:=by first|(rw [hy264];with_reducible exact H)|(have H2_:=(Option.bind_some _ _).symm.trans H;rw [hy264];with_reducible exact H2_)|(have H2_:=(Option.bind_some _ _).symm.trans H;with_reducible exact H2_)|with_reducible exact H|(rw [hy264];exact H)|exact H
   have Ny264 := D hy264; clear hy264; have H' := D H; clear H; go_enter Try.func37, Try.ntmps37
   go_wp2_with (first|((with_reducible refine gate_dst (N:=7) rfl ?_);refine Kd.R_make k67 _ 67 rfl (N:=7) rfl 32 _ _ rfl (l0.length:Int) rfl rfl Try.underlying32 (.agg #[(I L 0),(I L 0),(.bool false),(I L 0),(I L 0),(I L 0)]) 48 info67 rfl (by decide) (by omega) z67 (ok:=fun _=>True) (okp:=fun _=>True) (k67_mkM _ _ _ z67 ) (fun _ hk=>hk) trivial (od_ Z50) (Nat.le_trans (Nat.mul_le_mul_right _ (od_ Z50:(l0.length:Int).toNat≤5864062014805)) (by omega)) (Below.refl _ _) (Nat.le_refl _) ?_;intro v265 w4 ho5 hb hg_ hnew_;clear hg_ hnew_;(first|rw [← Ny264.out] at ho5|(simp only [Int.reduceToNat] at ho5;rw [← Ny264.out] at ho5));have n_:=an_ (Kd.R_lower ho5 (below_size (pB_ HB.out)))<|D (below_step (pB_ HB.out) hb);clear HB;obtain ⟨HO266,HB⟩:=n_;clear hb ho5))
   go_loopg [4] k (fun kq v4 w'=>∃ (x3_1:List (S67)) (x4_1:Int),v4=I L x4_1∧Aside0 (laws_toKidS.l0 kq l0 x3_1 x4_1=some r)∧Aside0 (kq≤k)∧Aside0 (Kd.R k67 67 w' w.heap.size (fun _=>True) v265 x3_1)∧Aside0 (Below w.heap.size w w'))
   case atStart => exact ⟨(y264), (0), Z51, H', ⟨Nat.le_refl _⟩, ⟨pR_ HO266.out⟩, ⟨pB_ HB.out⟩⟩
   case round =>
    clear H'
    (try clear c2);(try clear c2b0);(try clear c2b1);(try clear p2);(try clear c3);(try clear c3b0);(try clear c3b1)
    obtain ⟨x3_1, x4_1, rfl, HA, HK1, HO_3, HB⟩ := hrel
    cases gk with
    | zero => exact absurd HA.out (by simp [laws_toKidS.l0])
    | succ k1 =>
     have H := HA.out; clear HA; simp only [laws_toKidS.l0] at H
     by_cases c6 : x4_1 < (l0.length : Int)
     ·rw [if_pos c6] at H
      have c6b0 : decide (x4_1 < (l0.length : Int)) = true := decide_eq_true c6; clear c6
      by_cases c7 : 0 ≤ x4_1
      ·rw [if_pos c7] at H
       have c7b0:decide (0≤x4_1)=true:=decide_eq_true c7;clear c7;obtain ⟨⟨t268,t269,t270,t271,t272,t273⟩,A80,H⟩:=bs_.mp H;(try dsimp only at H);have A8:=D A80;clear A80
       by_cases c9 : x4_1 < (x3_1.length : Int)
       ·rw [if_pos c9] at H
        have c9b0:decide (x4_1 < (x3_1.length:Int))=true:=decide_eq_true c9;clear c9;obtain ⟨y274,hy274⟩:∃ y_:List (S67),y_=(x3_1.set (x4_1:Int).toNat (⟨t268,t269,t270,(⟨t271,t272,t273⟩:S31)⟩:S67)):=⟨_,rfl⟩
        replace H:(laws_toKidS.l0 k1 l0 y274 (wrap64 (x4_1 + 1)))=some r:=by first|(rw [hy274];with_reducible exact H)|(have H2_:=(Option.bind_some _ _).symm.trans H;rw [hy274];with_reducible exact H2_)|(have H2_:=(Option.bind_some _ _).symm.trans H;with_reducible exact H2_)|with_reducible exact H|(rw [hy274];exact H)|exact H
        have Ny274:=D hy274;clear hy274;have H':=D H;clear H;have p267:0≤(x4_1:Int):=od_ Z50;have q267:x4_1 < (l0.length:Int):=od_ Z50;obtain ⟨ad267,e267,hx267_0,hx267_1,hx267_2,hx267_3,hx267_4,hx267_5⟩:=at_T89 HR0.out x4_1 p267 q267;cases e267;replace hx267_0:=rc_ HB.out hx267_0;replace hx267_1:=rc_ HB.out hx267_1;replace hx267_2:=rc_ HB.out hx267_2;replace hx267_3:=rc_ HB.out hx267_3;replace hx267_4:=rc_ HB.out hx267_4;replace hx267_5:=rc_ HB.out hx267_5;replace p267:=eq_true p267;replace q267:=eq_true q267
        go_wp2_with (first|((with_reducible refine gate_callee (f:=55) rfl ?_);refine goesL_ (some 20) rfl rfl Try.func55 (by kernel_rfl) rfl #[.agg #[I L ((rd_T89 l0 x4_1).f0),I L ((rd_T89 l0 x4_1).f1),.bool ((rd_T89 l0 x4_1).f2),I L ((rd_T89 l0 x4_1).f3.f0),I L ((rd_T89 l0 x4_1).f3.f1),I L ((rd_T89 l0 x4_1).f3.f2)]] rfl Z14 ?_;(with_reducible refine (laws_toKid.calls ((rd_T89 l0 x4_1).f0) ((rd_T89 l0 x4_1).f1) ((rd_T89 l0 x4_1).f2) ((rd_T89 l0 x4_1).f3.f0) ((rd_T89 l0 x4_1).f3.f1) ((rd_T89 l0 x4_1).f3.f2) t268 t269 t270 t271 t272 t273 _ A8.out).mono ?_);rintro e w11 ⟨rfl,hb⟩;refine ⟨_,rfl,?_⟩;have n_:=an_ (Kd.R_below (pR_ HO_3.out) hb)<|D (below_step (pB_ HB.out) hb);clear HO_3 HB;obtain ⟨HO_3,HB⟩:=n_;(try clear hb);have p10:0≤(x4_1:Int):=od_ Z50;have q10:(x4_1:Int) < ((x3_1.length:Int):Int):=od_ Z50;obtain ⟨go10,co10,eo10,gb10,gl10,cl10,HG10⟩:=Kd.R_form HO_3.out (by omega);(first|cases eo10|(injection eo10 with ea_ en_ ec_;(first|subst ea_|(injection ea_ with ea_;subst ea_));subst ec_;clear en_));have GB10:=D gb10;have GG10:=D HG10;clear gb10 gl10 HG10;obtain ⟨ce10,hcl10,hM10,hcc10,hfr10⟩:=Kd.R_elem HO_3.out z67 (x4_1:Int) p10 q10;obtain rfl:=k67_openM hM10;have hx10_0:w11.cell? ⟨go10,(x4_1:Int).toNat * 6,none⟩=some (I L ((rd_T67 x3_1 x4_1).f0)):=hcc10 0 _ rfl;have hx10_1:w11.cell? ⟨go10,(x4_1:Int).toNat * 6 + 1,none⟩=some (I L ((rd_T67 x3_1 x4_1).f1)):=hcc10 1 _ rfl;have hx10_2:w11.cell? ⟨go10,(x4_1:Int).toNat * 6 + 2,none⟩=some (.bool ((rd_T67 x3_1 x4_1).f2)):=hcc10 2 _ rfl;have hx10_3:w11.cell? ⟨go10,(x4_1:Int).toNat * 6 + 3,none⟩=some (I L ((rd_T67 x3_1 x4_1).f3.f0)):=hcc10 3 _ rfl;have hx10_4:w11.cell? ⟨go10,(x4_1:Int).toNat * 6 + 4,none⟩=some (I L ((rd_T67 x3_1 x4_1).f3.f1)):=hcc10 4 _ rfl;have hx10_5:w11.cell? ⟨go10,(x4_1:Int).toNat * 6 + 5,none⟩=some (I L ((rd_T67 x3_1 x4_1).f3.f2)):=hcc10 5 _ rfl;have hf10_0:w11.frozen? ⟨go10,(x4_1:Int).toNat * 6,none⟩=false:=hfr10 0;have hf10_1:w11.frozen? ⟨go10,(x4_1:Int).toNat * 6 + 1,none⟩=false:=hfr10 1;have hf10_2:w11.frozen? ⟨go10,(x4_1:Int).toNat * 6 + 2,none⟩=false:=hfr10 2;have hf10_3:w11.frozen? ⟨go10,(x4_1:Int).toNat * 6 + 3,none⟩=false:=hfr10 3;have hf10_4:w11.frozen? ⟨go10,(x4_1:Int).toNat * 6 + 4,none⟩=false:=hfr10 4;have hf10_5:w11.frozen? ⟨go10,(x4_1:Int).toNat * 6 + 5,none⟩=false:=hfr10 5;clear hcl10 hcc10 hfr10 hM10;replace p10:=eq_true p10;replace q10:=eq_true q10;have HX12:=D (show Kd.R k67 67 w11 w.heap.size (fun _=>True) (Y (some ⟨go10,0,none⟩) x3_1.length co10) x3_1 from (pR_ HO_3.out));obtain ⟨ce12,hcl12,hM12,hcc12,hfr12⟩:=Kd.R_elem HX12.out z67 (x4_1:Int) (od_ Z50) (by have h_:(x4_1:Int) < ((x3_1.length:Int):Int):=od_ Z50;first|exact h_|(have e_:=(Kd.R_reads' HO_3.out).1;omega)|simpa using h_);obtain rfl:=k67_openM hM12;have HP12:=Kd.R_seg HX12.out (x4_1:Int) (od_ Z50) (by have h_:(x4_1:Int) < ((x3_1.length:Int):Int):=od_ Z50;first|exact h_|(have e_:=(Kd.R_reads' HO_3.out).1;omega)|simpa using h_) (seg:=[I L t268,I L t269,.bool t270,I L t271,I L t272,I L t273]) (j:=0) hcl12 hcc12 (show 6≤6 from by decide) (x':=(⟨t268,t269,t270,(⟨t271,t272,t273⟩:S31)⟩:S67)) (k67_mkM _ _ _ (⟨t268,t269,t270,(⟨t271,t272,t273⟩:S31)⟩:S67) ) (fun _ hk=>hk);have hx12_0:=hcc12 0 _ rfl;(try simp only [show (k67).sz=6 from rfl,Nat.mul_one,Nat.add_zero] at hx12_0);have hf12_0:=hfr12 0;(try simp only [show (k67).sz=6 from rfl,Nat.mul_one,Nat.add_zero] at hf12_0);have hx12_1:=hcc12 1 _ rfl;(try simp only [show (k67).sz=6 from rfl,Nat.mul_one,Nat.add_zero] at hx12_1);have hf12_1:=hfr12 1;(try simp only [show (k67).sz=6 from rfl,Nat.mul_one,Nat.add_zero] at hf12_1);have hx12_2:=hcc12 2 _ rfl;(try simp only [show (k67).sz=6 from rfl,Nat.mul_one,Nat.add_zero] at hx12_2);have hf12_2:=hfr12 2;(try simp only [show (k67).sz=6 from rfl,Nat.mul_one,Nat.add_zero] at hf12_2);have hx12_3:=hcc12 3 _ rfl;(try simp only [show (k67).sz=6 from rfl,Nat.mul_one,Nat.add_zero] at hx12_3);have hf12_3:=hfr12 3;(try simp only [show (k67).sz=6 from rfl,Nat.mul_one,Nat.add_zero] at hf12_3);have hx12_4:=hcc12 4 _ rfl;(try simp only [show (k67).sz=6 from rfl,Nat.mul_one,Nat.add_zero] at hx12_4);have hf12_4:=hfr12 4;(try simp only [show (k67).sz=6 from rfl,Nat.mul_one,Nat.add_zero] at hf12_4);have hx12_5:=hcc12 5 _ rfl;(try simp only [show (k67).sz=6 from rfl,Nat.mul_one,Nat.add_zero] at hx12_5);have hf12_5:=hfr12 5;(try simp only [show (k67).sz=6 from rfl,Nat.mul_one,Nat.add_zero] at hf12_5);clear hcl12 hcc12 hfr12 hM12)|((with_reducible refine gate_store (t:=67) (p:=21) rfl ?_);refine store_event (t:=67) (p:=21) (v:=?vo_w13) (w1:=((((((w11.setCell ⟨go10,(x4_1:Int).toNat * 6,none⟩ (I L t268)).setCell ⟨go10,(x4_1:Int).toNat * 6 + 1,none⟩ (I L t269)).setCell ⟨go10,(x4_1:Int).toNat * 6 + 2,none⟩ (.bool t270)).setCell ⟨go10,(x4_1:Int).toNat * 6 + 3,none⟩ (I L t271)).setCell ⟨go10,(x4_1:Int).toNat * 6 + 4,none⟩ (I L t272)).setCell ⟨go10,(x4_1:Int).toNat * 6 + 5,none⟩ (I L t273))) ?hg ?ho ?hn ?hr ?_;(case ho=>rfl);(case hg=>rfl);(case hn=>rfl);(case hr=>first|(go_simp;done)|(go_simp;rfl));intro w13 hw;have hg:w11.grownBy w13 (some go10):=Z53;have hp_:Kd.R k67 67 w13 w.heap.size (fun _=>True) (Y (some ⟨go10,0,none⟩) x3_1.length co10) y274:=(by rw [hw,Ny274.out];exact HP12.1);clear HP12;have n_:=an_ (hp_)<|D (by rw [hw];exact below_set (below_set (below_set (below_set (below_set (below_set (HB.out) GB10.out) GB10.out) GB10.out) GB10.out) GB10.out) GB10.out:Below w.heap.size w w13);clear HO_3 HB;obtain ⟨HO_3,HB⟩:=n_;clear hg hw hp_))
        go_roundg k1
        case measure => have := HK1.out; omega
        case rel => exact ⟨(y274), (wrap64 (x4_1 + 1)), Z51, H', ⟨by have := HK1.out; omega⟩, ⟨pR_ HO_3.out⟩, ⟨pB_ HB.out⟩⟩
       ·rw [if_neg c9] at H
        exact absurd H (by simp)
      ·rw [if_neg c7] at H
       exact absurd H (by simp)
     ·rw [if_neg c6] at H
      have c6b0 : decide (x4_1 < (l0.length : Int)) = false := decide_eq_false c6; clear c6; obtain rfl := Option.some.inj H
      go_wp2
      go_ret;exact ⟨_,er_,by (with_reducible repeat (first|apply Kd.R_alloc|apply Kd.R_drewN|apply Kd.R_drew));exact HO_3.out,pB_ HB.out⟩
  ·rw [if_neg c3] at H
   exact absurd H (by simp)
 ·rw [if_neg c2] at H
  exact absurd H (by simp)

/-! ### laws_toFair: function 17 -/
def laws_toFair.f (k : Nat) (a0_0 a0_1 a0_2 a0_3 : Int) (l0_4 : List (S89)) : Option (Int × Int × Int × Int × (List (S67))) := (laws_toVec.f a0_1 a0_2 a0_3).bind fun bt278 => ((laws_toKidS.f k l0_4).bind fun t281 => (some (a0_0, bt278.1, bt278.2.1, bt278.2.2, t281)))
set_option maxHeartbeats 8000000 in
set_option maxRecDepth 100000 in
theorem laws_toFair.calls (k : Nat) (a0_0 a0_1 a0_2 a0_3 : Int) (A0_4 : Option Addr) (c0_4 : Nat) (l0_4 : List (S89)) (r1 r2 r3 r4 : Int) (r5 : List (S67)) (w : World) (hr0_4 : Kd.C k89 w A0_4 l0_4.length l0_4) (hc0_4 : l0_4.length ≤ c0_4) (h : laws_toFair.f k a0_0 a0_1 a0_2 a0_3 l0_4 = some (r1, r2, r3, r4, r5)) :
  Calls Try.prog 17 #[.agg #[I L a0_0,I L a0_1,I L a0_2,I L a0_3,Y A0_4 l0_4.length c0_4]] w fun e w'=>∃ v4_:Value,e=.returned (.agg #[I L r1,I L r2,I L r3,I L r4,v4_])∧Kd.R k67 67 w' w.heap.size (fun _=>True) v4_ r5∧Below w.heap.size w w':=by
 have hu26 := Try.underlying26
 have hu34 := Try.underlying34
 have hu23 := Try.underlying23
 have hu31 := Try.underlying31
 have HR0_4 := D hr0_4
 have HC0_4 := D hc0_4
 clear hr0_4 hc0_4
 have HB := D (Below.refl w.heap.size w)
 have H : ((laws_toVec.f a0_1 a0_2 a0_3).bind fun bt278 => ((laws_toKidS.f k l0_4).bind fun t281 => (some (a0_0, bt278.1, bt278.2.1, bt278.2.2, t281)))) = some (r1, r2, r3, r4, r5) := h
 clear h
 obtain ⟨⟨t278, t279, t280⟩, A20, H⟩ := bs_.mp H
 (try dsimp only at H)
 have A2 := D A20
 clear A20
 obtain ⟨t281, A30, H⟩ := bs_.mp H
 (try dsimp only at H)
 have A3 := D A30
 clear A30
 simp only [Option.some.injEq, Prod.mk.injEq] at H
 obtain ⟨rfl, rfl, rfl, rfl, rfl⟩ := H
 go_enter Try.func17, Try.ntmps17
 go_wp2_with (first|((with_reducible refine gate_dst (N:=1) rfl ?_);refine bx_ (N:=1) (cs:=#[I L a0_0,I L a0_1,I L a0_2,I L a0_3,Y A0_4 l0_4.length c0_4]) (t:=26) ?_;intro gb275 hg w4 hbox hb;have n_:=an_ (below_step (pB_ HB.out) hb)<|an_ (hbox)<|an_ (bg_ hg (pB_ HB.out):w.heap.size≤gb275)<|D (bg_ hg (pB_ HB.out):w.heap.size≤gb275);clear HB;obtain ⟨HB,BK275,GW275,GE275⟩:=n_;clear hb hbox hg)|((with_reducible refine gate_dst (N:=2) rfl ?_);refine bx_ (N:=2) (cs:=#[I L 0,I L 0,I L 0,I L 0,Y none 0 0]) (t:=34) ?_;intro gb276 hg w5 hbox hb;have n_:=an_ (blk_below (pk_ BK275.out) hb)<|an_ (below_step (pB_ HB.out) hb)<|an_ (hbox)<|an_ (bg_ hg (pB_ HB.out):w.heap.size≤gb276)<|an_ (bg_ hg (pB_ HB.out):w.heap.size≤gb276)<|an_ (nl_ hg (pk_ BK275.out):gb275≠gb276)<|D (by rw [hg];exact Nat.ne_of_gt (blk_lt (pk_ BK275.out)):gb276≠gb275);clear BK275 HB;obtain ⟨BK275,HB,BK276,GW276,GE276,NB275_276,NB276_275⟩:=n_;clear hb hbox hg)|((with_reducible refine gate_dst (N:=3) rfl ?_);refine bx_ (N:=3) (cs:=#[I L 0,I L 0,I L 0,I L 0,Y none 0 0]) (t:=34) ?_;intro gb277 hg w6 hbox hb;have n_:=an_ (blk_below (pk_ BK275.out) hb)<|an_ (blk_below (pk_ BK276.out) hb)<|an_ (below_step (pB_ HB.out) hb)<|an_ (hbox)<|an_ (bg_ hg (pB_ HB.out):w.heap.size≤gb277)<|an_ (bg_ hg (pB_ HB.out):w.heap.size≤gb277)<|an_ (nl_ hg (pk_ BK275.out):gb275≠gb277)<|an_ (ng_ hg (pk_ BK275.out):gb277≠gb275)<|an_ (nl_ hg (pk_ BK276.out):gb276≠gb277)<|D (by rw [hg];exact Nat.ne_of_gt (blk_lt (pk_ BK276.out)):gb277≠gb276);clear BK275 BK276 HB;obtain ⟨BK275,BK276,HB,BK277,GW277,GE277,NB275_277,NB277_275,NB276_277,NB277_276⟩:=n_;clear hb hbox hg;(try have:=NB275_276.out);(try have:=NB276_275.out);(try have:=NB275_277.out);(try have:=NB277_275.out);have hcz9_0:=cells5 BK275.out;(try have:=NB277_276.out);(try have:=NB276_277.out);have hcz11_0:=cells5 BK277.out)|((with_reducible refine gate_callee (f:=36) rfl ?_);refine goesL_ (some 9) rfl rfl Try.func36 (by kernel_rfl) rfl #[.agg #[I L a0_1,I L a0_2,I L a0_3]] rfl Z14 ?_;(with_reducible refine (laws_toVec.calls a0_1 a0_2 a0_3 t278 t279 t280 _ A2.out).mono ?_);rintro e w12 ⟨rfl,hb⟩;refine ⟨_,rfl,?_⟩;have n_:=an_ (blk_below (g:=gb275) (o:=.cells #[I L a0_0,I L a0_1,I L a0_2,I L a0_3,Y A0_4 l0_4.length c0_4] 26 (0,0)) (by exact pP_ BK275.out) hb)<|an_ (blk_below (g:=gb276) (o:=.cells #[I L 0,I L 0,I L 0,I L 0,Y none 0 0] 34 (0,0)) (by exact pP_ BK276.out) hb)<|an_ (blk_below (g:=gb277) (o:=.cells #[I L a0_0,I L 0,I L 0,I L 0,Y none 0 0] 34 (0,0)) (by exact pP_ BK277.out) hb)<|D (below_step (pB_ HB.out) hb);clear BK275 BK276 BK277 HB;obtain ⟨BK275,BK276,BK277,HB⟩:=n_;(try clear hb);have hcz13_0:=cells5 BK277.out;have hcz14_0:=cells5 BK275.out)|((with_reducible refine gate_callee (f:=37) rfl ?_);refine goesL_ (some 13) rfl rfl Try.func37 (by kernel_rfl) rfl #[Y A0_4 l0_4.length c0_4] rfl Z14 ?_;(with_reducible refine (laws_toKidS.calls k _ _ l0_4 t281 _ ?side1 ?side2 A3.out).mono ?_);(case side1=>exact Kd.C_below HR0_4.out (pB_ HB.out));(case side2=>exact HC0_4.out);rintro e w15 ⟨v282,rfl,ho0,hb⟩;refine ⟨_,rfl,?_⟩;have n_:=an_ (Kd.R_lower ho0 (below_size (pB_ HB.out)))<|an_ (blk_below (g:=gb275) (o:=.cells #[I L a0_0,I L a0_1,I L a0_2,I L a0_3,Y A0_4 l0_4.length c0_4] 26 (0,0)) (by exact pP_ BK275.out) hb)<|an_ (blk_below (g:=gb276) (o:=.cells #[I L 0,I L 0,I L 0,I L 0,Y none 0 0] 34 (0,0)) (by exact pP_ BK276.out) hb)<|an_ (blk_below (g:=gb277) (o:=.cells #[I L a0_0,I L t278,I L t279,I L t280,Y none 0 0] 34 (0,0)) (by exact pP_ BK277.out) hb)<|D (below_step (pB_ HB.out) hb);clear BK275 BK276 BK277 HB;obtain ⟨HO283,BK275,BK276,BK277,HB⟩:=n_;(try clear hb);(try clear ho0);obtain ⟨Ao16,co16,eo16⟩:=Kd.R_slice HO283.out;subst eo16;have hcz17_0:=cells5 BK277.out;have hcz18_0:=cells5 BK276.out))
 refine bodyPost_ret (results_cell_row rfl _ _ gb276 34 #[I L a0_0,I L t278,I L t279,I L t280,Y Ao16 t281.length co16] (0,0) _ rfl (by exact pP_ BK276.out) Try.underlying34 rfl (by kernel_rfl)) rfl ?_
 exact ⟨_,er_,by (with_reducible repeat (first|apply Kd.R_alloc|apply Kd.R_drewN|apply Kd.R_drew));exact Kd.R_mono (fr_ (fr_ (fr_ (fr_ (fr_ (Kd.R_far (p:=⟨gb277,4,none⟩) (Kd.R_types (Kd.R_types HO283.out BK277.out (by decide)) BK276.out (by decide)) (fun _ hk=>hk.1.2) (Y Ao16 t281.length co16)) 0 (I L a0_0)) 1 (I L t278)) 2 (I L t279)) 3 (I L t280)) 4 (Y Ao16 t281.length co16)) (fun _ hk=>trivial),pB_ HB.out⟩

/-! ### laws_toBranch: function 38 -/
def laws_toBranch.f (k : Nat) (a0_0 a0_1 a0_2 a0_3 a0_4 : Int) (l0_5 : List (S89)) : Option (Int × Int × Int × Int × Int × (List (S67))) := (laws_toFair.f k a0_1 a0_2 a0_3 a0_4 l0_5).bind fun bt287 => (some (a0_0, bt287.1, bt287.2.1, bt287.2.2.1, bt287.2.2.2.1, bt287.2.2.2.2))
set_option maxHeartbeats 8000000 in
set_option maxRecDepth 100000 in
theorem laws_toBranch.calls (k : Nat) (a0_0 a0_1 a0_2 a0_3 a0_4 : Int) (A0_5 : Option Addr) (c0_5 : Nat) (l0_5 : List (S89)) (r1 r2 r3 r4 r5 : Int) (r6 : List (S67)) (w : World) (hr0_5 : Kd.C k89 w A0_5 l0_5.length l0_5) (hc0_5 : l0_5.length ≤ c0_5) (h : laws_toBranch.f k a0_0 a0_1 a0_2 a0_3 a0_4 l0_5 = some (r1, r2, r3, r4, r5, r6)) :
  Calls Try.prog 38 #[.agg #[I L a0_0,I L a0_1,I L a0_2,I L a0_3,I L a0_4,Y A0_5 l0_5.length c0_5]] w fun e w'=>∃ v5_:Value,e=.returned (.agg #[I L r1,I L r2,I L r3,I L r4,I L r5,v5_])∧Kd.R k67 67 w' w.heap.size (fun _=>True) v5_ r6∧Below w.heap.size w w':=by
 have hu64 := Try.underlying64
 have hu50 := Try.underlying50
 have hu26 := Try.underlying26
 have hu34 := Try.underlying34
 have HR0_5 := D hr0_5
 have HC0_5 := D hc0_5
 clear hr0_5 hc0_5
 have HB := D (Below.refl w.heap.size w)
 have H : ((laws_toFair.f k a0_1 a0_2 a0_3 a0_4 l0_5).bind fun bt287 => (some (a0_0, bt287.1, bt287.2.1, bt287.2.2.1, bt287.2.2.2.1, bt287.2.2.2.2))) = some (r1, r2, r3, r4, r5, r6) := h
 clear h
 obtain ⟨⟨t287, t288, t289, t290, t291⟩, A20, H⟩ := bs_.mp H
 (try dsimp only at H)
 have A2 := D A20
 clear A20
 simp only [Option.some.injEq, Prod.mk.injEq] at H
 obtain ⟨rfl, rfl, rfl, rfl, rfl, rfl⟩ := H
 go_enter Try.func38, Try.ntmps38
 go_wp2_with (first|((with_reducible refine gate_dst (N:=1) rfl ?_);refine bx_ (N:=1) (cs:=#[I L a0_0,I L a0_1,I L a0_2,I L a0_3,I L a0_4,Y A0_5 l0_5.length c0_5]) (t:=64) ?_;intro gb284 hg w3 hbox hb;have n_:=an_ (below_step (pB_ HB.out) hb)<|an_ (hbox)<|an_ (bg_ hg (pB_ HB.out):w.heap.size≤gb284)<|D (bg_ hg (pB_ HB.out):w.heap.size≤gb284);clear HB;obtain ⟨HB,BK284,GW284,GE284⟩:=n_;clear hb hbox hg)|((with_reducible refine gate_dst (N:=2) rfl ?_);refine bx_ (N:=2) (cs:=#[I L 0,I L 0,I L 0,I L 0,I L 0,Y none 0 0]) (t:=50) ?_;intro gb285 hg w4 hbox hb;have n_:=an_ (blk_below (pk_ BK284.out) hb)<|an_ (below_step (pB_ HB.out) hb)<|an_ (hbox)<|an_ (bg_ hg (pB_ HB.out):w.heap.size≤gb285)<|an_ (bg_ hg (pB_ HB.out):w.heap.size≤gb285)<|an_ (nl_ hg (pk_ BK284.out):gb284≠gb285)<|D (by rw [hg];exact Nat.ne_of_gt (blk_lt (pk_ BK284.out)):gb285≠gb284);clear BK284 HB;obtain ⟨BK284,HB,BK285,GW285,GE285,NB284_285,NB285_284⟩:=n_;clear hb hbox hg)|((with_reducible refine gate_dst (N:=3) rfl ?_);refine bx_ (N:=3) (cs:=#[I L 0,I L 0,I L 0,I L 0,I L 0,Y none 0 0]) (t:=50) ?_;intro gb286 hg w5 hbox hb;have n_:=an_ (blk_below (pk_ BK284.out) hb)<|an_ (blk_below (pk_ BK285.out) hb)<|an_ (below_step (pB_ HB.out) hb)<|an_ (hbox)<|an_ (bg_ hg (pB_ HB.out):w.heap.size≤gb286)<|an_ (bg_ hg (pB_ HB.out):w.heap.size≤gb286)<|an_ (nl_ hg (pk_ BK284.out):gb284≠gb286)<|an_ (ng_ hg (pk_ BK284.out):gb286≠gb284)<|an_ (nl_ hg (pk_ BK285.out):gb285≠gb286)<|D (by rw [hg];exact Nat.ne_of_gt (blk_lt (pk_ BK285.out)):gb286≠gb285);clear BK284 BK285 HB;obtain ⟨BK284,BK285,HB,BK286,GW286,GE286,NB284_286,NB286_284,NB285_286,NB286_285⟩:=n_;clear hb hbox hg;(try have:=NB284_285.out);(try have:=NB285_284.out);(try have:=NB284_286.out);(try have:=NB286_284.out);have hcz8_0:=cells6 BK284.out;(try have:=NB286_285.out);(try have:=NB285_286.out);have hcz10_0:=cells6 BK286.out)|((with_reducible refine gate_callee (f:=17) rfl ?_);refine goesL_ (some 9) rfl rfl Try.func17 (by kernel_rfl) rfl #[.agg #[I L a0_1,I L a0_2,I L a0_3,I L a0_4,Y A0_5 l0_5.length c0_5]] rfl Z14 ?_;(with_reducible refine (laws_toFair.calls k a0_1 a0_2 a0_3 a0_4 _ _ l0_5 t287 t288 t289 t290 t291 _ ?side1 ?side2 A2.out).mono ?_);(case side1=>exact Kd.C_below HR0_5.out (pB_ HB.out));(case side2=>exact HC0_5.out);rintro e w11 ⟨v292,rfl,ho0,hb⟩;refine ⟨_,rfl,?_⟩;have n_:=an_ (Kd.R_lower ho0 (below_size (pB_ HB.out)))<|an_ (blk_below (g:=gb284) (o:=.cells #[I L a0_0,I L a0_1,I L a0_2,I L a0_3,I L a0_4,Y A0_5 l0_5.length c0_5] 64 (0,0)) (by exact pP_ BK284.out) hb)<|an_ (blk_below (g:=gb285) (o:=.cells #[I L 0,I L 0,I L 0,I L 0,I L 0,Y none 0 0] 50 (0,0)) (by exact pP_ BK285.out) hb)<|an_ (blk_below (g:=gb286) (o:=.cells #[I L a0_0,I L 0,I L 0,I L 0,I L 0,Y none 0 0] 50 (0,0)) (by exact pP_ BK286.out) hb)<|D (below_step (pB_ HB.out) hb);clear BK284 BK285 BK286 HB;obtain ⟨HO293,BK284,BK285,BK286,HB⟩:=n_;(try clear hb);(try clear ho0);have hcz12_0:=cells6 BK286.out;obtain ⟨Ao13,co13,eo13⟩:=Kd.R_slice HO293.out;subst eo13;have hcz14_0:=cells6 BK285.out))
 refine bodyPost_ret (results_cell_row rfl _ _ gb285 50 #[I L a0_0,I L t287,I L t288,I L t289,I L t290,Y Ao13 t291.length co13] (0,0) _ rfl (by exact pP_ BK285.out) Try.underlying50 rfl (by kernel_rfl)) rfl ?_
 exact ⟨_,er_,by (with_reducible repeat (first|apply Kd.R_alloc|apply Kd.R_drewN|apply Kd.R_drew));exact Kd.R_mono (fr_ (fr_ (fr_ (fr_ (fr_ (fr_ (Kd.R_far (p:=⟨gb286,5,none⟩) (Kd.R_far (p:=⟨gb286,4,none⟩) (Kd.R_far (p:=⟨gb286,3,none⟩) (Kd.R_far (p:=⟨gb286,2,none⟩) (Kd.R_far (p:=⟨gb286,1,none⟩) (Kd.R_types (Kd.R_types HO293.out BK286.out (by decide)) BK285.out (by decide)) (fun _ hk=>hk.1.2) (I L t287)) (fun _ hk=>hk.1.2) (I L t288)) (fun _ hk=>hk.1.2) (I L t289)) (fun _ hk=>hk.1.2) (I L t290)) (fun _ hk=>hk.1.2) (Y Ao13 t291.length co13)) 0 (I L a0_0)) 1 (I L t287)) 2 (I L t288)) 3 (I L t289)) 4 (I L t290)) 5 (Y Ao13 t291.length co13)) (fun _ hk=>trivial),pB_ HB.out⟩

/-! ### laws_toBranchS: function 18 -/
def laws_toBranchS.l0 : Nat → List (S64) → List (S50) → Int → Option ((List (S50)))
 | 0, _, _, _ => none
 | k + 1,x0,x3,x4=>if x4 < (x0.length:Int) then (if 0≤x4 then ((laws_toBranch.f k ((rd_T64 x0 x4).f0) ((rd_T64 x0 x4).f1.f0) ((rd_T64 x0 x4).f1.f1.f0) ((rd_T64 x0 x4).f1.f1.f1) ((rd_T64 x0 x4).f1.f1.f2) ((rd_T64 x0 x4).f1.f2)).bind fun bt298=>(if x4 < (x3.length:Int) then (laws_toBranchS.l0 k x0 (x3.set (x4:Int).toNat (⟨bt298.1,(⟨bt298.2.1,(⟨bt298.2.2.1,bt298.2.2.2.1,bt298.2.2.2.2.1⟩:S31),bt298.2.2.2.2.2⟩:S34)⟩:S50)) (wrap64 (x4 + 1))) else (none))) else (none)) else (some x3)
def laws_toBranchS.f (k : Nat) (l0 : List (S64)) : Option ((List (S50))) := if 0 ≤ (l0.length : Int) then (if ((l0.length : Int) : Int).toNat ≤ 4398046511104 then (laws_toBranchS.l0 k l0 (List.replicate ((l0.length : Int) : Int).toNat z50) 0) else (none)) else (none)
set_option maxHeartbeats 8000000 in
set_option maxRecDepth 100000 in
theorem laws_toBranchS.calls (k : Nat) (A0 : Option Addr) (c0 : Nat) (l0 : List (S64)) (r : List (S50)) (w : World) (hr0 : Kd.C k64 w A0 l0.length l0) (hc0 : l0.length ≤ c0) (h : laws_toBranchS.f k l0 = some r) :
  Calls Try.prog 18 #[Y A0 l0.length c0] w fun e w' => ∃ v0_ : Value, e = .returned (v0_) ∧ Kd.S k50 50 w' w.heap.size (fun _ => True) v0_ r ∧ Below w.heap.size w w' := by
 have hu64 := Try.underlying64
 have hu50 := Try.underlying50
 have HR0 := D hr0
 have HC0 := D hc0
 clear hr0 hc0
 have HB := D (Below.refl w.heap.size w)
 have H:(if 0≤(l0.length:Int) then (if ((l0.length:Int):Int).toNat≤4398046511104 then (laws_toBranchS.l0 k l0 (List.replicate ((l0.length:Int):Int).toNat z50) 0) else (none)) else (none))=some r:=h
 clear h
 by_cases c2 : 0 ≤ (l0.length : Int)
 ·rw [if_pos c2] at H
  have c2b0 := eq_true c2; have c2b1 : decide (0 ≤ (l0.length : Int)) = true := decide_eq_true c2; clear c2
  by_cases c3 : ((l0.length : Int) : Int).toNat ≤ 4398046511104
  ·rw [if_pos c3] at H
   have c3b0:=eq_true c3;have c3b1:decide (((l0.length:Int):Int).toNat≤4398046511104)=true:=decide_eq_true c3;clear c3;obtain ⟨y294,hy294⟩:∃ y_:List (S50),y_=(List.replicate ((l0.length:Int):Int).toNat z50):=⟨_,rfl⟩
   replace H:(laws_toBranchS.l0 k l0 y294 0)=some r:=by first|(rw [hy294];with_reducible exact H)|(have H2_:=(Option.bind_some _ _).symm.trans H;rw [hy294];with_reducible exact H2_)|(have H2_:=(Option.bind_some _ _).symm.trans H;with_reducible exact H2_)|with_reducible exact H|(rw [hy294];exact H)|exact H
   have Ny294 := D hy294; clear hy294; have H' := D H; clear H; go_enter Try.func18, Try.ntmps18
   go_wp2_with (first|((with_reducible refine gate_dst (N:=7) rfl ?_);refine Kd.S_make k50 _ 50 rfl (N:=7) rfl 35 _ _ rfl (l0.length:Int) rfl rfl Try.underlying35 (.agg #[(I L 0),(I L 0),(I L 0),(I L 0),(I L 0),(Y none 0 0)]) 64 info50 rfl (by decide) (by omega) z50 (ok:=fun _=>True) (okp:=fun _=>True) (k50_mkM _ _ _ z50 (Kd.R_nil _ _ _ _ _)) (fun _ hk=>hk) trivial (od_ Z50) (Nat.le_trans (Nat.mul_le_mul_right _ (od_ Z50:(l0.length:Int).toNat≤4398046511104)) (by omega)) (Below.refl _ _) (Nat.le_refl _) ?_;intro v295 w4 ho5 hb hg_ hnew_;clear hg_ hnew_;(first|rw [← Ny294.out] at ho5|(simp only [Int.reduceToNat] at ho5;rw [← Ny294.out] at ho5));have n_:=an_ (Kd.S_lower ho5 (below_size (pB_ HB.out)))<|D (below_step (pB_ HB.out) hb);clear HB;obtain ⟨HO296,HB⟩:=n_;clear hb ho5))
   go_loopg [4] k (fun kq v4 w'=>∃ (x3_1:List (S50)) (x4_1:Int),v4=I L x4_1∧Aside0 (laws_toBranchS.l0 kq l0 x3_1 x4_1=some r)∧Aside0 (kq≤k)∧Aside0 (Kd.S k50 50 w' w.heap.size (fun _=>True) v295 x3_1)∧Aside0 (Below w.heap.size w w'))
   case atStart => exact ⟨(y294), (0), Z51, H', ⟨Nat.le_refl _⟩, ⟨pS_ HO296.out⟩, ⟨pB_ HB.out⟩⟩
   case round =>
    clear H'
    (try clear c1);(try clear c2);(try clear c2b0);(try clear c2b1);(try clear p2);(try clear c3);(try clear c3b0);(try clear c3b1)
    obtain ⟨x3_1, x4_1, rfl, HA, HK1, HO_3, HB⟩ := hrel
    cases gk with
    | zero => exact absurd HA.out (by simp [laws_toBranchS.l0])
    | succ k1 =>
     have H := HA.out; clear HA; simp only [laws_toBranchS.l0] at H
     by_cases c6 : x4_1 < (l0.length : Int)
     ·rw [if_pos c6] at H
      have c6b0 : decide (x4_1 < (l0.length : Int)) = true := decide_eq_true c6; clear c6
      by_cases c7 : 0 ≤ x4_1
      ·rw [if_pos c7] at H
       have c7b0:decide (0≤x4_1)=true:=decide_eq_true c7;clear c7;obtain ⟨⟨t298,t299,t300,t301,t302,t303⟩,A80,H⟩:=bs_.mp H;(try dsimp only at H);have A8:=D A80;clear A80
       by_cases c9 : x4_1 < (x3_1.length : Int)
       ·rw [if_pos c9] at H
        have c9b0:decide (x4_1 < (x3_1.length:Int))=true:=decide_eq_true c9;clear c9;obtain ⟨y306,hy306⟩:∃ y_:List (S50),y_=(x3_1.set (x4_1:Int).toNat (⟨t298,(⟨t299,(⟨t300,t301,t302⟩:S31),t303⟩:S34)⟩:S50)):=⟨_,rfl⟩
        replace H:(laws_toBranchS.l0 k1 l0 y306 (wrap64 (x4_1 + 1)))=some r:=by first|(rw [hy306];with_reducible exact H)|(have H2_:=(Option.bind_some _ _).symm.trans H;rw [hy306];with_reducible exact H2_)|(have H2_:=(Option.bind_some _ _).symm.trans H;with_reducible exact H2_)|with_reducible exact H|(rw [hy306];exact H)|exact H
        have Ny306:=D hy306;clear hy306;have H':=D H;clear H;have p297:0≤(x4_1:Int):=od_ Z50;have q297:x4_1 < (l0.length:Int):=od_ Z50;obtain ⟨ad297,A297_5,c297_5,e297,hx297_0,hx297_1,hx297_2,hx297_3,hx297_4,hx297_5,hl297_5,hi297_5⟩:=at_T64 HR0.out x4_1 p297 q297;cases e297;replace hx297_0:=rc_ HB.out hx297_0;replace hx297_1:=rc_ HB.out hx297_1;replace hx297_2:=rc_ HB.out hx297_2;replace hx297_3:=rc_ HB.out hx297_3;replace hx297_4:=rc_ HB.out hx297_4;replace hx297_5:=rc_ HB.out hx297_5;have HR297_5:=D hi297_5;have HC297_5:=D hl297_5;clear hi297_5 hl297_5;replace p297:=eq_true p297;replace q297:=eq_true q297
        go_wp2_with (first|((with_reducible refine gate_callee (f:=38) rfl ?_);refine goesL_ (some 20) rfl rfl Try.func38 (by kernel_rfl) rfl #[.agg #[I L ((rd_T64 l0 x4_1).f0),I L ((rd_T64 l0 x4_1).f1.f0),I L ((rd_T64 l0 x4_1).f1.f1.f0),I L ((rd_T64 l0 x4_1).f1.f1.f1),I L ((rd_T64 l0 x4_1).f1.f1.f2),Y A297_5 ((rd_T64 l0 x4_1).f1.f2).length c297_5]] rfl Z14 ?_;(with_reducible refine (laws_toBranch.calls k1 ((rd_T64 l0 x4_1).f0) ((rd_T64 l0 x4_1).f1.f0) ((rd_T64 l0 x4_1).f1.f1.f0) ((rd_T64 l0 x4_1).f1.f1.f1) ((rd_T64 l0 x4_1).f1.f1.f2) _ _ ((rd_T64 l0 x4_1).f1.f2) t298 t299 t300 t301 t302 t303 _ ?side1 ?side2 A8.out).mono ?_);(case side1=>exact pC_ (Kd.C_below HR297_5.out HB.out));(case side2=>exact HC297_5.out);rintro e w11 ⟨v304,rfl,ho0,hb⟩;refine ⟨_,rfl,?_⟩;have n_:=an_ (Kd.S_elder' (pS_ HO_3.out) (Kd.R_base ho0) hb)<|an_ (Kd.R_lower ho0 (below_size (pB_ HB.out)))<|D (below_step (pB_ HB.out) hb);clear HO_3 HB;obtain ⟨HO_3,HO305,HB⟩:=n_;(try clear hb);(try clear ho0);have p10:0≤(x4_1:Int):=od_ Z50;have q10:(x4_1:Int) < ((x3_1.length:Int):Int):=od_ Z50;obtain ⟨go10,co10,eo10,gb10,gl10,cl10,HG10⟩:=Kd.S_form HO_3.out (by omega);(first|cases eo10|(injection eo10 with ea_ en_ ec_;(first|subst ea_|(injection ea_ with ea_;subst ea_));subst ec_;clear en_));have GB10:=D gb10;have GG10:=D HG10;clear gb10 gl10 HG10;obtain ⟨_,ce10,hcl10,hM10,hcc10,hfr10,_,_⟩:=Kd.S_elem HO_3.out z50 (x4_1:Int) p10 q10;obtain ⟨ve10_5,rfl,ge10_5⟩:=k50_openM hM10;have hx10_0:w11.cell? ⟨go10,(x4_1:Int).toNat * 6,none⟩=some (I L ((rd_T50 x3_1 x4_1).f0)):=hcc10 0 _ rfl;have hx10_1:w11.cell? ⟨go10,(x4_1:Int).toNat * 6 + 1,none⟩=some (I L ((rd_T50 x3_1 x4_1).f1.f0)):=hcc10 1 _ rfl;have hx10_2:w11.cell? ⟨go10,(x4_1:Int).toNat * 6 + 2,none⟩=some (I L ((rd_T50 x3_1 x4_1).f1.f1.f0)):=hcc10 2 _ rfl;have hx10_3:w11.cell? ⟨go10,(x4_1:Int).toNat * 6 + 3,none⟩=some (I L ((rd_T50 x3_1 x4_1).f1.f1.f1)):=hcc10 3 _ rfl;have hx10_4:w11.cell? ⟨go10,(x4_1:Int).toNat * 6 + 4,none⟩=some (I L ((rd_T50 x3_1 x4_1).f1.f1.f2)):=hcc10 4 _ rfl;have hx10_5:w11.cell? ⟨go10,(x4_1:Int).toNat * 6 + 5,none⟩=some (ve10_5):=hcc10 5 _ rfl;have hf10_0:w11.frozen? ⟨go10,(x4_1:Int).toNat * 6,none⟩=false:=hfr10 0;have hf10_1:w11.frozen? ⟨go10,(x4_1:Int).toNat * 6 + 1,none⟩=false:=hfr10 1;have hf10_2:w11.frozen? ⟨go10,(x4_1:Int).toNat * 6 + 2,none⟩=false:=hfr10 2;have hf10_3:w11.frozen? ⟨go10,(x4_1:Int).toNat * 6 + 3,none⟩=false:=hfr10 3;have hf10_4:w11.frozen? ⟨go10,(x4_1:Int).toNat * 6 + 4,none⟩=false:=hfr10 4;have hf10_5:w11.frozen? ⟨go10,(x4_1:Int).toNat * 6 + 5,none⟩=false:=hfr10 5;clear hcl10 hcc10 hfr10 hM10;replace p10:=eq_true p10;replace q10:=eq_true q10;have n_:=D (Kd.S_mono (ok':=(fun k_=>some k_≠(v304:Value).ownBlock)) HO_3.out (fun k_ hk=>hk.2));clear HO_3;have HO_3:=n_;clear n_;have HX12:=D (show Kd.S k50 50 w11 w.heap.size (fun k_=>((fun _=>True)) k_∧¬ ((fun k_=>some k_=(v304:Value).ownBlock)) k_) (Y (some ⟨go10,0,none⟩) x3_1.length co10) x3_1 from (pS_ (Kd.S_mono HO_3.out (fun k_ hk=>⟨trivial,fun e_=>hk e_⟩))));obtain ⟨oki12,ce12,hcl12,hM12,hcc12,hfr12,hoki12,hH12⟩:=Kd.S_elem HX12.out z50 (x4_1:Int) (od_ Z50) (by have h_:(x4_1:Int) < ((x3_1.length:Int):Int):=od_ Z50;first|exact h_|(have e_:=(Kd.S_reads' HO_3.out).1;omega)|simpa using h_);obtain ⟨ve12_5,rfl,ge12_5⟩:=k50_openM hM12;have HP12:=Kd.S_seg hH12 (od_ Z50) (by have h_:(x4_1:Int) < ((x3_1.length:Int):Int):=od_ Z50;first|exact h_|(have e_:=(Kd.S_reads' HO_3.out).1;omega)|simpa using h_) (seg:=[I L t298,I L t299,I L t300,I L t301,I L t302,v304]) (j:=0) (show 6≤6 from by decide) (x':=(⟨t298,(⟨t299,(⟨t300,t301,t302⟩:S31),t303⟩:S34)⟩:S50)) (k50_mkM _ _ _ (⟨t298,(⟨t299,(⟨t300,t301,t302⟩:S31),t303⟩:S34)⟩:S50) (Kd.R_mono (Kd.R_tight rfl (Kd.R_mono (ok':=fun k_=>((fun _=>True)) k_∧k_≠go10) (Kd.R_apart' (HO305.out) (Kd.S_typed HO_3.out) (by decide)) (fun k_ hk=>⟨trivial,fun e_=>(hk.2) (by rw [e_];rfl)⟩))) (fun _ h_=>Or.inr (h_)))) (fun _ hk=>hk) (fun k_ hk_=>((Kd.R_mono (ok':=fun k_=>((fun _=>True)) k_∧k_≠go10) (Kd.R_apart' (HO305.out) (Kd.S_typed HO_3.out) (by decide)) (fun k_ hk=>⟨trivial,fun e_=>(hk.2) (by rw [e_];rfl)⟩))).1 k_ hk_.symm);have hx12_0:=hcc12 0 _ rfl;(try simp only [show (k50).sz=6 from rfl,Nat.mul_one,Nat.add_zero] at hx12_0);have hf12_0:=hfr12 0;(try simp only [show (k50).sz=6 from rfl,Nat.mul_one,Nat.add_zero] at hf12_0);have hx12_1:=hcc12 1 _ rfl;(try simp only [show (k50).sz=6 from rfl,Nat.mul_one,Nat.add_zero] at hx12_1);have hf12_1:=hfr12 1;(try simp only [show (k50).sz=6 from rfl,Nat.mul_one,Nat.add_zero] at hf12_1);have hx12_2:=hcc12 2 _ rfl;(try simp only [show (k50).sz=6 from rfl,Nat.mul_one,Nat.add_zero] at hx12_2);have hf12_2:=hfr12 2;(try simp only [show (k50).sz=6 from rfl,Nat.mul_one,Nat.add_zero] at hf12_2);have hx12_3:=hcc12 3 _ rfl;(try simp only [show (k50).sz=6 from rfl,Nat.mul_one,Nat.add_zero] at hx12_3);have hf12_3:=hfr12 3;(try simp only [show (k50).sz=6 from rfl,Nat.mul_one,Nat.add_zero] at hf12_3);have hx12_4:=hcc12 4 _ rfl;(try simp only [show (k50).sz=6 from rfl,Nat.mul_one,Nat.add_zero] at hx12_4);have hf12_4:=hfr12 4;(try simp only [show (k50).sz=6 from rfl,Nat.mul_one,Nat.add_zero] at hf12_4);have hx12_5:=hcc12 5 _ rfl;(try simp only [show (k50).sz=6 from rfl,Nat.mul_one,Nat.add_zero] at hx12_5);have hf12_5:=hfr12 5;(try simp only [show (k50).sz=6 from rfl,Nat.mul_one,Nat.add_zero] at hf12_5);clear hcl12 hcc12 hfr12 hM12 hoki12 hH12)|((with_reducible refine gate_store (t:=50) (p:=21) rfl ?_);refine store_event (t:=50) (p:=21) (v:=?vo_w13) (w1:=((((((w11.setCell ⟨go10,(x4_1:Int).toNat * 6,none⟩ (I L t298)).setCell ⟨go10,(x4_1:Int).toNat * 6 + 1,none⟩ (I L t299)).setCell ⟨go10,(x4_1:Int).toNat * 6 + 2,none⟩ (I L t300)).setCell ⟨go10,(x4_1:Int).toNat * 6 + 3,none⟩ (I L t301)).setCell ⟨go10,(x4_1:Int).toNat * 6 + 4,none⟩ (I L t302)).setCell ⟨go10,(x4_1:Int).toNat * 6 + 5,none⟩ (v304))) ?hg ?ho ?hn ?hr ?_;(case ho=>rfl);(case hg=>rfl);(case hn=>rfl);(case hr=>first|(go_simp;done)|(go_simp;rfl)|(obtain ⟨_,_,e_⟩:=Kd.R_slice HO305.out;subst e_;first|(go_simp;done)|(go_simp;rfl)));intro w13 hw;have hg:w11.grownBy w13 (some go10):=Z53;have hp_:Kd.S k50 50 w13 w.heap.size (fun _=>True) (Y (some ⟨go10,0,none⟩) x3_1.length co10) y306:=(by rw [hw,Ny306.out];exact HP12.1);clear HP12;have n_:=an_ (hp_)<|D (by rw [hw];exact below_set (below_set (below_set (below_set (below_set (below_set (HB.out) GB10.out) GB10.out) GB10.out) GB10.out) GB10.out) GB10.out:Below w.heap.size w w13);clear HO_3 HB HO305;obtain ⟨HO_3,HB⟩:=n_;clear hg hw hp_))
        go_roundg k1
        case measure => have := HK1.out; omega
        case rel => exact ⟨(y306), (wrap64 (x4_1 + 1)), Z51, H', ⟨by have := HK1.out; omega⟩, ⟨pS_ HO_3.out⟩, ⟨pB_ HB.out⟩⟩
       ·rw [if_neg c9] at H
        exact absurd H (by simp)
      ·rw [if_neg c7] at H
       exact absurd H (by simp)
     ·rw [if_neg c6] at H
      have c6b0 : decide (x4_1 < (l0.length : Int)) = false := decide_eq_false c6; clear c6; obtain rfl := Option.some.inj H
      go_wp2
      go_ret;exact ⟨_,er_,by (with_reducible repeat (first|apply Kd.S_alloc|apply Kd.S_drewN|apply Kd.S_drew));exact HO_3.out,pB_ HB.out⟩
  ·rw [if_neg c3] at H
   exact absurd H (by simp)
 ·rw [if_neg c2] at H
  exact absurd H (by simp)

/-! ### laws_toTree: function 6 -/
def laws_toTree.f (k : Nat) (a0_0 a0_1 a0_2 a0_3 : Int) (l0_4 : List (S89)) (l0_5 : List (S64)) : Option (Int × Int × Int × Int × (List (S67)) × (List (S50))) := (laws_toFair.f k a0_0 a0_1 a0_2 a0_3 l0_4).bind fun bt310 => ((laws_toBranchS.f k l0_5).bind fun t317 => (some (bt310.1, bt310.2.1, bt310.2.2.1, bt310.2.2.2.1, bt310.2.2.2.2, t317)))
set_option maxHeartbeats 8000000 in
set_option maxRecDepth 100000 in
theorem laws_toTree.calls (k : Nat) (a0_0 a0_1 a0_2 a0_3 : Int) (A0_4 : Option Addr) (c0_4 : Nat) (l0_4 : List (S89)) (A0_5 : Option Addr) (c0_5 : Nat) (l0_5 : List (S64)) (r1 r2 r3 r4 : Int) (r5 : List (S67)) (r6 : List (S50)) (w : World) (hr0_4 : Kd.C k89 w A0_4 l0_4.length l0_4) (hc0_4 : l0_4.length ≤ c0_4) (hr0_5 : Kd.C k64 w A0_5 l0_5.length l0_5) (hc0_5 : l0_5.length ≤ c0_5) (h : laws_toTree.f k a0_0 a0_1 a0_2 a0_3 l0_4 l0_5 = some (r1, r2, r3, r4, r5, r6)) :
  Calls Try.prog 6 #[.agg #[I L a0_0,I L a0_1,I L a0_2,I L a0_3,Y A0_4 l0_4.length c0_4,Y A0_5 l0_5.length c0_5]] w fun e w'=>∃ v4_ v5_:Value,e=.returned (.agg #[I L r1,I L r2,I L r3,I L r4,v4_,v5_])∧Kd.R k67 67 w' w.heap.size (fun _=>True) v4_ r5∧Kd.S k50 50 w' w.heap.size (fun k_=>some k_≠(v4_:Value).ownBlock) v5_ r6∧Below w.heap.size w w':=by
 have hu29 := Try.underlying29
 have hu37 := Try.underlying37
 have hu26 := Try.underlying26
 have hu34 := Try.underlying34
 have HR0_4 := D hr0_4
 have HC0_4 := D hc0_4
 clear hr0_4 hc0_4
 have HR0_5 := D hr0_5
 have HC0_5 := D hc0_5
 clear hr0_5 hc0_5
 have HB := D (Below.refl w.heap.size w)
 have H:((laws_toFair.f k a0_0 a0_1 a0_2 a0_3 l0_4).bind fun bt310=>((laws_toBranchS.f k l0_5).bind fun t317=>(some (bt310.1,bt310.2.1,bt310.2.2.1,bt310.2.2.2.1,bt310.2.2.2.2,t317))))=some (r1,r2,r3,r4,r5,r6):=h
 clear h
 obtain ⟨⟨t310, t311, t312, t313, t314⟩, A20, H⟩ := bs_.mp H
 (try dsimp only at H)
 have A2 := D A20
 clear A20
 obtain ⟨t317, A30, H⟩ := bs_.mp H
 (try dsimp only at H)
 have A3 := D A30
 clear A30
 simp only [Option.some.injEq, Prod.mk.injEq] at H
 obtain ⟨rfl, rfl, rfl, rfl, rfl, rfl⟩ := H
 go_enter Try.func6, Try.ntmps6
 go_wp2_with (first|((with_reducible refine gate_dst (N:=1) rfl ?_);refine bx_ (N:=1) (cs:=#[I L a0_0,I L a0_1,I L a0_2,I L a0_3,Y A0_4 l0_4.length c0_4,Y A0_5 l0_5.length c0_5]) (t:=29) ?_;intro gb307 hg w4 hbox hb;have n_:=an_ (below_step (pB_ HB.out) hb)<|an_ (hbox)<|an_ (bg_ hg (pB_ HB.out):w.heap.size≤gb307)<|D (bg_ hg (pB_ HB.out):w.heap.size≤gb307);clear HB;obtain ⟨HB,BK307,GW307,GE307⟩:=n_;clear hb hbox hg)|((with_reducible refine gate_dst (N:=2) rfl ?_);refine bx_ (N:=2) (cs:=#[I L 0,I L 0,I L 0,I L 0,Y none 0 0,Y none 0 0]) (t:=37) ?_;intro gb308 hg w5 hbox hb;have n_:=an_ (blk_below (pk_ BK307.out) hb)<|an_ (below_step (pB_ HB.out) hb)<|an_ (hbox)<|an_ (bg_ hg (pB_ HB.out):w.heap.size≤gb308)<|an_ (bg_ hg (pB_ HB.out):w.heap.size≤gb308)<|an_ (nl_ hg (pk_ BK307.out):gb307≠gb308)<|D (by rw [hg];exact Nat.ne_of_gt (blk_lt (pk_ BK307.out)):gb308≠gb307);clear BK307 HB;obtain ⟨BK307,HB,BK308,GW308,GE308,NB307_308,NB308_307⟩:=n_;clear hb hbox hg)|((with_reducible refine gate_dst (N:=3) rfl ?_);refine bx_ (N:=3) (cs:=#[I L 0,I L 0,I L 0,I L 0,Y none 0 0,Y none 0 0]) (t:=37) ?_;intro gb309 hg w6 hbox hb;have n_:=an_ (blk_below (pk_ BK307.out) hb)<|an_ (blk_below (pk_ BK308.out) hb)<|an_ (below_step (pB_ HB.out) hb)<|an_ (hbox)<|an_ (bg_ hg (pB_ HB.out):w.heap.size≤gb309)<|an_ (bg_ hg (pB_ HB.out):w.heap.size≤gb309)<|an_ (nl_ hg (pk_ BK307.out):gb307≠gb309)<|an_ (ng_ hg (pk_ BK307.out):gb309≠gb307)<|an_ (nl_ hg (pk_ BK308.out):gb308≠gb309)<|D (by rw [hg];exact Nat.ne_of_gt (blk_lt (pk_ BK308.out)):gb309≠gb308);clear BK307 BK308 HB;obtain ⟨BK307,BK308,HB,BK309,GW309,GE309,NB307_309,NB309_307,NB308_309,NB309_308⟩:=n_;clear hb hbox hg;(try have:=NB307_308.out);(try have:=NB308_307.out);(try have:=NB307_309.out);(try have:=NB309_307.out);have hcz9_0:=cells6 BK307.out)|((with_reducible refine gate_callee (f:=17) rfl ?_);refine goesL_ (some 6) rfl rfl Try.func17 (by kernel_rfl) rfl #[.agg #[I L a0_0,I L a0_1,I L a0_2,I L a0_3,Y A0_4 l0_4.length c0_4]] rfl Z14 ?_;(with_reducible refine (laws_toFair.calls k a0_0 a0_1 a0_2 a0_3 _ _ l0_4 t310 t311 t312 t313 t314 _ ?side1 ?side2 A2.out).mono ?_);(case side1=>exact pC_ (Kd.C_below HR0_4.out HB.out));(case side2=>exact HC0_4.out);rintro e w10 ⟨v315,rfl,ho0,hb⟩;refine ⟨_,rfl,?_⟩;have n_:=an_ (Kd.R_lower ho0 (below_size (pB_ HB.out)))<|an_ (blk_below (pk_ BK307.out) hb)<|an_ (blk_below (pk_ BK308.out) hb)<|an_ (blk_below (pk_ BK309.out) hb)<|D (below_step (pB_ HB.out) hb);clear BK307 BK308 BK309 HB;obtain ⟨HO316,BK307,BK308,BK309,HB⟩:=n_;(try clear hb);(try clear ho0);(try have:=NB309_308.out);(try have:=NB308_309.out);have hcz12_0:=cells6 BK309.out;obtain ⟨Ao13,co13,eo13⟩:=Kd.R_slice HO316.out;subst eo13;have hcz14_0:=cells6 BK307.out)|((with_reducible refine gate_callee (f:=18) rfl ?_);refine goesL_ (some 10) rfl rfl Try.func18 (by kernel_rfl) rfl #[Y A0_5 l0_5.length c0_5] rfl Z14 ?_;(with_reducible refine (laws_toBranchS.calls k _ _ l0_5 t317 _ ?side1 ?side2 A3.out).mono ?_);(case side1=>exact Kd.C_below HR0_5.out (pB_ HB.out));(case side2=>exact HC0_5.out);rintro e w15 ⟨v318,rfl,ho0,hb⟩;refine ⟨_,rfl,?_⟩;have n_:=an_ (Kd.R_below (rM_ (Kd.R_types HO316.out BK309.out (by decide)) (fun _ h_=>h_.1)) hb)<|an_ (Kd.S_lower (Kd.S_new' ho0 (Kd.R_lt (rM_ (Kd.R_types HO316.out BK309.out (by decide)) (fun _ h_=>h_.1)))) (below_size (pB_ HB.out)))<|an_ (blk_below (g:=gb307) (o:=.cells #[I L a0_0,I L a0_1,I L a0_2,I L a0_3,Y A0_4 l0_4.length c0_4,Y A0_5 l0_5.length c0_5] 29 (0,0)) (by exact pP_ BK307.out) hb)<|an_ (blk_below (g:=gb308) (o:=.cells #[I L 0,I L 0,I L 0,I L 0,Y none 0 0,Y none 0 0] 37 (0,0)) (by exact pP_ BK308.out) hb)<|an_ (blk_below (g:=gb309) (o:=.cells #[I L t310,I L t311,I L t312,I L t313,Y Ao13 t314.length co13,Y none 0 0] 37 (0,0)) (by exact pP_ BK309.out) hb)<|D (below_step (pB_ HB.out) hb);clear HO316 BK307 BK308 BK309 HB;obtain ⟨HO316,HO319,BK307,BK308,BK309,HB⟩:=n_;(try clear hb);(try clear ho0);obtain ⟨Ao16,co16,eo16⟩:=Kd.S_slice HO319.out;subst eo16;have hcz17_0:=cells6 BK309.out;have hcz18_0:=cells6 BK308.out))
 refine bodyPost_ret (results_cell_row rfl _ _ gb308 37 #[I L t310,I L t311,I L t312,I L t313,Y Ao13 t314.length co13,Y Ao16 t317.length co16] (0,0) _ rfl (by exact pP_ BK308.out) Try.underlying37 rfl (by kernel_rfl)) rfl ?_
 exact ⟨_,_,er_,by (with_reducible repeat (first|apply Kd.R_alloc|apply Kd.R_drewN|apply Kd.R_drew));exact Kd.R_mono (fr_ (fr_ (fr_ (fr_ (fr_ (fr_ (Kd.R_far (p:=⟨gb309,5,none⟩) (Kd.R_types (Kd.R_types HO316.out BK309.out (by decide)) BK308.out (by decide)) (fun _ hk=>hk.1.2) (Y Ao16 t317.length co16)) 0 (I L t310)) 1 (I L t311)) 2 (I L t312)) 3 (I L t313)) 4 (Y Ao13 t314.length co13)) 5 (Y Ao16 t317.length co16)) (fun _ hk=>trivial),by (with_reducible repeat (first|apply Kd.S_alloc|apply Kd.S_drewN|apply Kd.S_drew));exact Kd.S_mono (Kd.S_far (p:=⟨gb308,5,none⟩) (Kd.S_far (p:=⟨gb308,4,none⟩) (Kd.S_far (p:=⟨gb308,3,none⟩) (Kd.S_far (p:=⟨gb308,2,none⟩) (Kd.S_far (p:=⟨gb308,1,none⟩) (Kd.S_far (p:=⟨gb308,0,none⟩) (Kd.S_far (p:=⟨gb309,5,none⟩) (Kd.S_types (Kd.S_types HO319.out BK309.out (by decide)) BK308.out (by decide)) (fun _ hk=>hk.1.2) (Y Ao16 t317.length co16)) (fun _ hk=>hk.2) (I L t310)) (fun _ hk=>hk.2) (I L t311)) (fun _ hk=>hk.2) (I L t312)) (fun _ hk=>hk.2) (I L t313)) (fun _ hk=>hk.2) (Y Ao13 t314.length co13)) (fun _ hk=>hk.2) (Y Ao16 t317.length co16)) (fun _ hk=>hk.1.1.2),pB_ HB.out⟩

/-! ### impl_VecTop: function 60 -/
def impl_VecTop.f (a0_0 a0_1 a0_2 : Int) : Option (Int) := some (mx (mx a0_0 a0_1) a0_2)
set_option maxHeartbeats 8000000 in
set_option maxRecDepth 100000 in
theorem impl_VecTop.calls (a0_0 a0_1 a0_2 r : Int) (w : World) (h : impl_VecTop.f a0_0 a0_1 a0_2 = some r) :
  Calls Try.prog 60 #[.agg #[I L a0_0, I L a0_1, I L a0_2]] w fun e w' => e = .returned (I L r) ∧ Below w.heap.size w w' := by
 have hu31 := Try.underlying31
 have HB := D (Below.refl w.heap.size w)
 have H : (some (mx (mx a0_0 a0_1) a0_2)) = some r := h
 clear h
 obtain ⟨ji2, hji2⟩ : ∃ j_ : Int, (mx a0_0 a0_1) = j_ := ⟨_, rfl⟩
 replace H : (some (mx (ji2) a0_2)) = some r := by first | (rw [hji2] at H; exact H) | (simp only [hji2] at H ⊢; exact H)
 have hji2_ : (if a0_0 < a0_1 then a0_1 else a0_0) = ji2 := hji2
 obtain ⟨ji3, hji3⟩ : ∃ j_ : Int, (mx (ji2) a0_2) = j_ := ⟨_, rfl⟩
 replace H : (some ji3) = some r := by first | (rw [hji3] at H; exact H) | (simp only [hji3] at H ⊢; exact H)
 have hji3_ : (if (ji2) < a0_2 then a0_2 else (ji2)) = ji3 := hji3
 obtain rfl := Option.some.inj H
 go_enter Try.func60, Try.ntmps60
 go_wp2_with (first|((with_reducible refine gate_dst (N:=1) rfl ?_);refine bx_ (N:=1) (cs:=#[I L a0_0,I L a0_1,I L a0_2]) (t:=31) ?_;intro gb320 hg w4 hbox hb;have n_:=an_ (below_step (pB_ HB.out) hb)<|an_ (hbox)<|an_ (bg_ hg (pB_ HB.out):w.heap.size≤gb320)<|D (bg_ hg (pB_ HB.out):w.heap.size≤gb320);clear HB;obtain ⟨HB,BK320,GW320,GE320⟩:=n_;clear hb hbox hg;have hcz5_0:=cells3 BK320.out))
 go_ret
 exact ⟨by first|rfl|(simp [errW_none,errW_some] <;> rfl)|(simp only [← hji2,← hji3];first|rfl|(simp [errW_none,errW_some] <;> rfl))|(simp [*,errW_none,errW_some] <;> rfl),pB_ HB.out⟩

/-! ### impl_within: function 77 -/
def impl_within.f (a0 a1 a2 : Int) : Option (Bool) := if a0 ≥ a1 then (some (decide (a0 ≤ a2))) else (some false)
set_option maxHeartbeats 8000000 in
set_option maxRecDepth 100000 in
theorem impl_within.calls (a0 a1 a2 : Int) (r : Bool) (w : World) (h : impl_within.f a0 a1 a2 = some r) :
  Calls Try.prog 77 #[I L a0, I L a1, I L a2] w fun e w' => e = .returned (.bool r) ∧ Drawn0 w w' := by
 have H : (if a0 ≥ a1 then (some (decide (a0 ≤ a2))) else (some false)) = some r := h
 clear h
 by_cases c4 : a0 ≥ a1
 ·rw [if_pos c4] at H
  have c4b0 : decide (a1 ≤ a0) = true := decide_eq_true c4; clear c4; obtain rfl := Option.some.inj H; go_enter Try.func77, Try.ntmps77
  go_wp2
  go_ret; exact ⟨by first | rfl | (simp; done) | (simp [*]; done), by repeat (first | exact Drawn0.refl _ | apply Drawn0.step)⟩
 ·rw [if_neg c4] at H
  have c4b0 : decide (a1 ≤ a0) = false := decide_eq_false c4; clear c4; obtain rfl := Option.some.inj H; go_enter Try.func77, Try.ntmps77
  go_wp2
  go_ret; exact ⟨by first | rfl | (simp; done) | (simp [*]; done), by repeat (first | exact Drawn0.refl _ | apply Drawn0.step)⟩

/-! ### impl_Vec_isFrom: function 70 -/
def impl_Vec_isFrom.f (a0_0 a0_1 a0_2 a1 a2 : Int) : Option (Bool) := (impl_within.f a0_0 a1 a2).bind fun t322 => (if t322 = true then ((impl_within.f a0_1 a1 a2).bind fun t323 => (if t323 = true then ((impl_within.f a0_2 a1 a2).bind fun t324 => (some t324)) else (some false))) else (some false))
set_option maxHeartbeats 8000000 in
set_option maxRecDepth 100000 in
theorem impl_Vec_isFrom.calls (a0_0 a0_1 a0_2 a1 a2 : Int) (r : Bool) (w : World) (h : impl_Vec_isFrom.f a0_0 a0_1 a0_2 a1 a2 = some r) :
  Calls Try.prog 70 #[.agg #[I L a0_0, I L a0_1, I L a0_2], I L a1, I L a2] w fun e w' => e = .returned (.bool r) ∧ Below w.heap.size w w' := by
 have hu31 := Try.underlying31
 have HB := D (Below.refl w.heap.size w)
 have H:((impl_within.f a0_0 a1 a2).bind fun t322=>(if t322=true then ((impl_within.f a0_1 a1 a2).bind fun t323=>(if t323=true then ((impl_within.f a0_2 a1 a2).bind fun t324=>(some t324)) else (some false))) else (some false)))=some r:=h
 clear h
 obtain ⟨t322, A40, H⟩ := bs_.mp H
 (try dsimp only at H)
 have A4 := D A40
 clear A40
 by_cases c5 : t322 = true
 ·subst c5
  rw [if_pos rfl] at H; obtain ⟨t323, A60, H⟩ := bs_.mp H; (try dsimp only at H); have A6 := D A60; clear A60
  by_cases c7 : t323 = true
  ·subst c7
   rw [if_pos rfl] at H;obtain ⟨t324,A80,H⟩:=bs_.mp H;(try dsimp only at H);have A8:=D A80;clear A80;obtain rfl:=Option.some.inj H;go_enter Try.func70,Try.ntmps70
   go_wp2_with (first|((with_reducible refine gate_dst (N:=3) rfl ?_);refine bx_ (N:=3) (cs:=#[I L a0_0,I L a0_1,I L a0_2]) (t:=31) ?_;intro gb321 hg w9 hbox hb;have n_:=an_ (below_step (pB_ HB.out) hb)<|an_ (hbox)<|an_ (bg_ hg (pB_ HB.out):w.heap.size≤gb321)<|D (bg_ hg (pB_ HB.out):w.heap.size≤gb321);clear HB;obtain ⟨HB,BK321,GW321,GE321⟩:=n_;clear hb hbox hg;have hcz10_0:=cells3 BK321.out)|((with_reducible refine gate_callee (f:=77) rfl ?_);refine goesL_ (some 11) rfl rfl Try.func77 (by kernel_rfl) rfl #[I L a0_0,I L a1,I L a2] rfl Z14 ?_;(with_reducible refine (impl_within.calls a0_0 a1 a2 true _ A4.out).mono ?_);rintro e w' ⟨rfl,⟨nd,rfl⟩⟩;refine ⟨_,rfl,?_⟩)|(go_at_call 77;(with_reducible refine (impl_within.calls a0_1 a1 a2 true _ A6.out).mono ?_);rintro e w' ⟨rfl,⟨nd,rfl⟩⟩)|(go_at_call 77;(with_reducible refine (impl_within.calls a0_2 a1 a2 t324 _ A8.out).mono ?_);rintro e w' ⟨rfl,⟨nd,rfl⟩⟩))
   go_ret; exact ⟨er_, pB_ HB.out⟩
  ·replace c7 := Bool.eq_false_iff.mpr c7
   subst c7; rw [if_neg (show ¬ (false = true) by decide)] at H; obtain rfl := Option.some.inj H; go_enter Try.func70, Try.ntmps70
   go_wp2_with (first|((with_reducible refine gate_dst (N:=3) rfl ?_);refine bx_ (N:=3) (cs:=#[I L a0_0,I L a0_1,I L a0_2]) (t:=31) ?_;intro gb321 hg w11 hbox hb;have n_:=an_ (below_step (pB_ HB.out) hb)<|an_ (hbox)<|an_ (bg_ hg (pB_ HB.out):w.heap.size≤gb321)<|D (bg_ hg (pB_ HB.out):w.heap.size≤gb321);clear HB;obtain ⟨HB,BK321,GW321,GE321⟩:=n_;clear hb hbox hg;have hcz12_0:=cells3 BK321.out)|((with_reducible refine gate_callee (f:=77) rfl ?_);refine goesL_ (some 11) rfl rfl Try.func77 (by kernel_rfl) rfl #[I L a0_0,I L a1,I L a2] rfl Z14 ?_;(with_reducible refine (impl_within.calls a0_0 a1 a2 true _ A4.out).mono ?_);rintro e w' ⟨rfl,⟨nd,rfl⟩⟩;refine ⟨_,rfl,?_⟩)|(go_at_call 77;(with_reducible refine (impl_within.calls a0_1 a1 a2 false _ A6.out).mono ?_);rintro e w' ⟨rfl,⟨nd,rfl⟩⟩))
   go_ret; exact ⟨er_, pB_ HB.out⟩
 ·replace c5 := Bool.eq_false_iff.mpr c5
  subst c5; rw [if_neg (show ¬ (false = true) by decide)] at H; obtain rfl := Option.some.inj H; go_enter Try.func70, Try.ntmps70
  go_wp2_with (first|((with_reducible refine gate_dst (N:=3) rfl ?_);refine bx_ (N:=3) (cs:=#[I L a0_0,I L a0_1,I L a0_2]) (t:=31) ?_;intro gb321 hg w13 hbox hb;have n_:=an_ (below_step (pB_ HB.out) hb)<|an_ (hbox)<|an_ (bg_ hg (pB_ HB.out):w.heap.size≤gb321)<|D (bg_ hg (pB_ HB.out):w.heap.size≤gb321);clear HB;obtain ⟨HB,BK321,GW321,GE321⟩:=n_;clear hb hbox hg;have hcz14_0:=cells3 BK321.out)|((with_reducible refine gate_callee (f:=77) rfl ?_);refine goesL_ (some 11) rfl rfl Try.func77 (by kernel_rfl) rfl #[I L a0_0,I L a1,I L a2] rfl Z14 ?_;(with_reducible refine (impl_within.calls a0_0 a1 a2 false _ A4.out).mono ?_);rintro e w' ⟨rfl,⟨nd,rfl⟩⟩;refine ⟨_,rfl,?_⟩))
  go_ret; exact ⟨er_, pB_ HB.out⟩

/-! ### impl_TagOk: function 68 -/
def impl_TagOk.f (a0_0 a0_1 a0_2 : Int) : Option (Bool) := (impl_Vec_isFrom.f a0_0 a0_1 a0_2 0 1000000000000).bind fun t326 => (some t326)
set_option maxHeartbeats 8000000 in
set_option maxRecDepth 100000 in
theorem impl_TagOk.calls (a0_0 a0_1 a0_2 : Int) (r : Bool) (w : World) (h : impl_TagOk.f a0_0 a0_1 a0_2 = some r) :
  Calls Try.prog 68 #[.agg #[I L a0_0, I L a0_1, I L a0_2]] w fun e w' => e = .returned (.bool r) ∧ Below w.heap.size w w' := by
 have hu31 := Try.underlying31
 have HB := D (Below.refl w.heap.size w)
 have H : ((impl_Vec_isFrom.f a0_0 a0_1 a0_2 0 1000000000000).bind fun t326 => (some t326)) = some r := h
 clear h
 obtain ⟨t326, A20, H⟩ := bs_.mp H
 (try dsimp only at H)
 have A2 := D A20
 clear A20
 obtain rfl := Option.some.inj H
 go_enter Try.func68, Try.ntmps68
 go_wp2_with (first|((with_reducible refine gate_dst (N:=1) rfl ?_);refine bx_ (N:=1) (cs:=#[I L a0_0,I L a0_1,I L a0_2]) (t:=31) ?_;intro gb325 hg w3 hbox hb;have n_:=an_ (below_step (pB_ HB.out) hb)<|an_ (hbox)<|an_ (bg_ hg (pB_ HB.out):w.heap.size≤gb325)<|D (bg_ hg (pB_ HB.out):w.heap.size≤gb325);clear HB;obtain ⟨HB,BK325,GW325,GE325⟩:=n_;clear hb hbox hg;have hcz4_0:=cells3 BK325.out)|((with_reducible refine gate_callee (f:=70) rfl ?_);refine goesL_ (some 4) rfl rfl Try.func70 (by kernel_rfl) rfl #[.agg #[I L a0_0,I L a0_1,I L a0_2],I L 0,I L 1000000000000] rfl Z14 ?_;(with_reducible refine (impl_Vec_isFrom.calls a0_0 a0_1 a0_2 0 1000000000000 t326 _ A2.out).mono ?_);rintro e w5 ⟨rfl,hb⟩;refine ⟨_,rfl,?_⟩;have n_:=an_ (blk_below (pk_ BK325.out) hb)<|D (below_step (pB_ HB.out) hb);clear BK325 HB;obtain ⟨BK325,HB⟩:=n_;(try clear hb)))
 go_ret
 exact ⟨er_, pB_ HB.out⟩

/-! ### impl_isDelta: function 69 -/
def impl_isDelta.f (a0 : Int) : Option (Bool) := (impl_within.f a0 0 10000000).bind fun t327 => (some t327)
set_option maxHeartbeats 8000000 in
set_option maxRecDepth 100000 in
theorem impl_isDelta.calls (a0 : Int) (r : Bool) (w : World) (h : impl_isDelta.f a0 = some r) :
  Calls Try.prog 69 #[I L a0] w fun e w' => e = .returned (.bool r) ∧ Drawn0 w w' := by
 have H : ((impl_within.f a0 0 10000000).bind fun t327 => (some t327)) = some r := h
 clear h
 obtain ⟨t327, A20, H⟩ := bs_.mp H
 (try dsimp only at H)
 have A2 := D A20
 clear A20
 obtain rfl := Option.some.inj H
 go_enter Try.func69, Try.ntmps69
 go_wp2_with (first|((with_reducible refine gate_callee (f:=77) rfl ?_);refine goesL_ (some 4) rfl rfl Try.func77 (by kernel_rfl) rfl #[I L a0,I L 0,I L 10000000] rfl Z14 ?_;(with_reducible refine (impl_within.calls a0 0 10000000 t327 _ A2.out).mono ?_);rintro e w' ⟨rfl,⟨nd,rfl⟩⟩;refine ⟨_,rfl,?_⟩))
 go_ret
 exact ⟨by first | rfl | (simp; done) | (simp [*]; done), by repeat (first | exact Drawn0.refl _ | apply Drawn0.step)⟩

end Go.Proofs.Ytmloggnobgikdab.PFnExactTreeShed
