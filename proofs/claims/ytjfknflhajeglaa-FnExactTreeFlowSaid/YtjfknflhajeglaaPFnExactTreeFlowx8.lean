-- by a program of this session's, over the kit's words
import Derived.Test.YtjfknflhajeglaaPZFnExactTreeFlow
import Derived.Test.YtjfknflhajeglaaPFnExactTreeFlowx0
import Derived.Test.YtjfknflhajeglaaPFnExactTreeFlowx4
import Derived.Test.YtjfknflhajeglaaPFnExactTreeFlowx5
import Derived.Test.YtjfknflhajeglaaPFnExactTreeFlowx6
import Derived.Test.YtjfknflhajeglaaPFnExactTreeFlowx7
namespace Go.Proofs.Ytjfknflhajeglaa.PFnExactTreeFlow
open Go.RowKit Go.Proofs.YtjfknflhajeglaaW.PrintWords Go.Proofs.YtjfknflhajeglaaW.PrintLast Go.Proofs.YtjfknflhajeglaaW.PrintMore Go.Proofs.YtjfknflhajeglaaV Go.Proofs.Ytjfknflhajeglaa.ZFnExactTreeFlow
open Go.Value renaming int → I, slice → Y
open Go.IntKind renaming i64 → L
open Aside0 renaming mk → D
open Option renaming bind_eq_some_iff → bs_
attribute [local go_sem] max2_int min2_int max_two min_two max_three min_three max_four min_four   -- for this text's walks alone
set_option linter.unusedVariables false
set_option linter.unusedSimpArgs false

/-! ### spec_TreeFlow: function 5 -/
def spec_TreeFlow.f (k : Nat) (a0_0 a0_1 a0_2 a0_3 : Int) (l0_4 : List (S67)) (l0_5 : List (S50)) (a1 a2 a3 : Int) : Option (Int × Int × Int × Int × (List (S67)) × (List (S50)) × Int) := (spec_TreeOk.f k a0_0 a0_1 a0_2 a0_3 l0_4 l0_5).bind fun t235 => (if t235 = true then ((spec_l20At.f k a0_0 a0_1 a0_2 a0_3 l0_4 l0_5 a1).bind fun t236 => (if t236 < 0 then (some (0, 0, 0, 0, ([] : List (S67)), ([] : List (S50)), 4)) else (if 0 ≤ t236 then (if t236 < (l0_5.length : Int) then ((spec_FairJoin.f k ((rd_T50 l0_5 t236).f1.f0) ((rd_T50 l0_5 t236).f1.f1.f0) ((rd_T50 l0_5 t236).f1.f1.f1) ((rd_T50 l0_5 t236).f1.f1.f2) ((rd_T50 l0_5 t236).f1.f2) a2 a3).bind fun bt238 => (if bt238.2.2.2.2.2 = 0 then ((spec_l20With.f k a0_0 a0_1 a0_2 a0_3 l0_4 l0_5 a0_0 a0_1 a0_2 a0_3 l0_4 t236 bt238.1 bt238.2.1 bt238.2.2.1 bt238.2.2.2.1 bt238.2.2.2.2.1).bind fun bt247 => (some (bt247.1, bt247.2.1, bt247.2.2.1, bt247.2.2.2.1, bt247.2.2.2.2.1, bt247.2.2.2.2.2, 0))) else (some (0, 0, 0, 0, ([] : List (S67)), ([] : List (S50)), bt238.2.2.2.2.2)))) else (none)) else (none)))) else (some (0, 0, 0, 0, ([] : List (S67)), ([] : List (S50)), 1)))
set_option maxHeartbeats 8000000 in
set_option maxRecDepth 100000 in
theorem spec_TreeFlow.calls (k : Nat) (a0_0 a0_1 a0_2 a0_3 : Int) (A0_4 : Option Addr) (c0_4 : Nat) (l0_4 : List (S67)) (A0_5 : Option Addr) (c0_5 : Nat) (l0_5 : List (S50)) (a1 a2 a3 r1 r2 r3 r4 : Int) (r5 : List (S67)) (r6 : List (S50)) (r7 : Int) (w : World) (hr0_4 : Kd.C k67 w A0_4 l0_4.length l0_4) (hc0_4 : l0_4.length ≤ c0_4) (hr0_5 : Kd.C k50 w A0_5 l0_5.length l0_5) (hc0_5 : l0_5.length ≤ c0_5) (h : spec_TreeFlow.f k a0_0 a0_1 a0_2 a0_3 l0_4 l0_5 a1 a2 a3 = some (r1, r2, r3, r4, r5, r6, r7)) :
  Calls Try.prog 5 #[.agg #[I L a0_0,I L a0_1,I L a0_2,I L a0_3,Y A0_4 l0_4.length c0_4,Y A0_5 l0_5.length c0_5],I L a1,I L a2,I L a3] w fun e w'=>∃ v4_ v5_:Value,e=.returned (.tuple #[.agg #[I L r1,I L r2,I L r3,I L r4,v4_,v5_],I L r7])∧Kd.R k67 67 w' w.heap.size (fun _=>True) v4_ r5∧Kd.S k50 50 w' w.heap.size (fun k_=>some k_≠(v4_:Value).ownBlock) v5_ r6∧Below w.heap.size w w':=by
 have hu37 := Try.underlying37
 have hu34 := Try.underlying34
 have HR0_4 := D hr0_4
 have HC0_4 := D hc0_4
 clear hr0_4 hc0_4
 have HR0_5 := D hr0_5
 have HC0_5 := D hc0_5
 clear hr0_5 hc0_5
 have HB := D (Below.refl w.heap.size w)
 have H:((spec_TreeOk.f k a0_0 a0_1 a0_2 a0_3 l0_4 l0_5).bind fun Je=>(if Je=true then ((spec_l20At.f k a0_0 a0_1 a0_2 a0_3 l0_4 l0_5 a1).bind fun Ma=>(if Ma < 0 then (some (0,0,0,0,([]:List (S67)),([]:List (S50)),4)) else (if 0≤Ma then (if Ma < (l0_5.length:Int) then ((spec_FairJoin.f k ((rd_T50 l0_5 Ma).f1.f0) ((rd_T50 l0_5 Ma).f1.f1.f0) ((rd_T50 l0_5 Ma).f1.f1.f1) ((rd_T50 l0_5 Ma).f1.f1.f2) ((rd_T50 l0_5 Ma).f1.f2) a2 a3).bind fun bt238=>(if bt238.2.2.2.2.2=0 then ((spec_l20With.f k a0_0 a0_1 a0_2 a0_3 l0_4 l0_5 a0_0 a0_1 a0_2 a0_3 l0_4 Ma bt238.1 bt238.2.1 bt238.2.2.1 bt238.2.2.2.1 bt238.2.2.2.2.1).bind fun bt247=>(some (bt247.1,bt247.2.1,bt247.2.2.1,bt247.2.2.2.1,bt247.2.2.2.2.1,bt247.2.2.2.2.2,0))) else (some (0,0,0,0,([]:List (S67)),([]:List (S50)),bt238.2.2.2.2.2)))) else (none)) else (none)))) else (some (0,0,0,0,([]:List (S67)),([]:List (S50)),1))))=some (r1,r2,r3,r4,r5,r6,r7):=h
 clear h
 obtain ⟨Je, A50, H⟩ := bs_.mp H
 (try dsimp only at H)
 have A5 := D A50
 clear A50
 have HU6 := D H
 clear H
 go_enter Try.func5, Try.ntmps5
 go_upto_if 15 with (first|((with_reducible refine gate_dst (N:=4) rfl ?_);refine bx_ (N:=4) (cs:=#[I L a0_0,I L a0_1,I L a0_2,I L a0_3,Y A0_4 l0_4.length c0_4,Y A0_5 l0_5.length c0_5]) (t:=37) ?_;intro Jb hg w7 hbox hb;have n_:=an_ (below_step (pB_ HB.out) hb)<|an_ (hbox)<|an_ (bg_ hg (pB_ HB.out):w.heap.size≤Jb)<|D (bg_ hg (pB_ HB.out):w.heap.size≤Jb);clear HB;obtain ⟨HB,Ka,Jg,Kg⟩:=n_;clear hb hbox hg)|((with_reducible refine gate_dst (N:=8) rfl ?_);refine bx_ (N:=8) (cs:=#[I L 0,I L 0,I L 0,I L 0,Y none 0 0,Y none 0 0]) (t:=37) ?_;intro Oa hg w8 hbox hb;have n_:=an_ (blk_below (pk_ Ka.out) hb)<|an_ (below_step (pB_ HB.out) hb)<|an_ (hbox)<|an_ (bg_ hg (pB_ HB.out):w.heap.size≤Oa)<|an_ (bg_ hg (pB_ HB.out):w.heap.size≤Oa)<|an_ (nl_ hg (pk_ Ka.out):Jb≠Oa)<|D (by rw [hg];exact Nat.ne_of_gt (blk_lt (pk_ Ka.out)):Oa≠Jb);clear Ka HB;obtain ⟨Ka,HB,Ja,Mg,Og,Kc,Mc⟩:=n_;clear hb hbox hg;(try have:=Kc.out);(try have:=Mc.out);have Ug:=cells6 Ka.out)|((with_reducible refine gate_callee (f:=13) rfl ?_);refine goesL_ (some 14) rfl rfl Try.func13 (by kernel_rfl) rfl #[.agg #[I L a0_0,I L a0_1,I L a0_2,I L a0_3,Y A0_4 l0_4.length c0_4,Y A0_5 l0_5.length c0_5]] rfl Z17 ?_;(with_reducible refine (spec_TreeOk.calls k a0_0 a0_1 a0_2 a0_3 _ _ l0_4 _ _ l0_5 Je _ ?side1 ?side2 ?side3 ?side4 A5.out).mono ?_);(case side1=>exact pC_ (Kd.C_below HR0_4.out HB.out));(case side2=>exact HC0_4.out);(case side3=>exact pC_ (Kd.C_below HR0_5.out HB.out));(case side4=>exact HC0_5.out);rintro e w11 ⟨rfl,hb⟩;refine ⟨_,rfl,?_⟩;have n_:=an_ (blk_below (pk_ Ka.out) hb)<|an_ (blk_below (pk_ Ja.out) hb)<|D (below_step (pB_ HB.out) hb);clear Ka Ja HB;obtain ⟨Ka,Ja,HB⟩:=n_;(try clear hb)))
 have H := HU6.out
 clear HU6
 by_cases c12 : Je = true
 ·subst c12
  rw [if_pos rfl] at H;obtain ⟨Ma,A130,H⟩:=bs_.mp H;(try dsimp only at H);have A13:=D A130;clear A130;have HU14:=D H;clear H;(try have:=Kc.out);(try have:=Mc.out);have Ui:=cells6 Ka.out
  go_upto_if 21 with (first|((with_reducible refine gate_callee (f:=14) rfl ?_);refine goesL_ (some 19) rfl rfl Try.func14 (by kernel_rfl) rfl #[.agg #[I L a0_0,I L a0_1,I L a0_2,I L a0_3,Y A0_4 l0_4.length c0_4,Y A0_5 l0_5.length c0_5],I L a1] rfl Z17 ?_;(with_reducible refine (spec_l20At.calls k a0_0 a0_1 a0_2 a0_3 _ _ l0_4 _ _ l0_5 a1 Ma _ ?side1 ?side2 ?side3 ?side4 A13.out).mono ?_);(case side1=>exact pC_ (Kd.C_below HR0_4.out HB.out));(case side2=>exact HC0_4.out);(case side3=>exact pC_ (Kd.C_below HR0_5.out HB.out));(case side4=>exact HC0_5.out);rintro e w17 ⟨rfl,hb⟩;refine ⟨_,rfl,?_⟩;have n_:=an_ (blk_below (pk_ Ka.out) hb)<|an_ (blk_below (pk_ Ja.out) hb)<|D (below_step (pB_ HB.out) hb);clear Ka Ja HB;obtain ⟨Ka,Ja,HB⟩:=n_;(try clear hb)))
  have H := HU14.out; clear HU14
  by_cases c18 : Ma < 0
  ·rw [if_pos c18] at H
   have c18b0:decide (Ma < 0)=true:=decide_eq_true c18;clear c18;refine rw_ c18b0 ?_;simp only [Option.some.injEq,Prod.mk.injEq] at H;obtain ⟨rfl,rfl,rfl,rfl,rfl,rfl,rfl⟩:=H;(try have:=Mc.out);(try have:=Kc.out);have Uk:=cells6 Ja.out
   go_wp2
   refine bodyPost_ret (results_ct rfl _ _ Oa 37 #[I L 0,I L 0,I L 0,I L 0,Y none 0 0,Y none 0 0] (0,0) _ rfl Z3 Try.underlying37 rfl (by kernel_rfl)) rfl ?_;exact ⟨_,_,er_,by first|exact Kd.R_nil _ _ _ _ _|exact Kd.N_nil _ _ _ _ _|exact Kd.V_nil _ _ _ _ _|exact Kd.Q_nil _ _ _ _ _|exact Kd.S_nil _ _ _ _ _,by first|exact Kd.S_nil _ _ _ _ _|exact Kd.N_nil _ _ _ _ _|exact Kd.V_nil _ _ _ _ _|exact Kd.Q_nil _ _ _ _ _|exact Kd.R_nil _ _ _ _ _,pB_ HB.out⟩
  ·rw [if_neg c18] at H
   have c18b0:decide (Ma < 0)=false:=decide_eq_false c18;clear c18;refine rw_ c18b0 ?_
   by_cases c21 : 0 ≤ Ma
   ·rw [if_pos c21] at H
    have c21b0 : decide (0 ≤ Ma) = true := decide_eq_true c21; clear c21
    by_cases c22 : Ma < (l0_5.length : Int)
    ·rw [if_pos c22] at H
     have c22b0:decide (Ma < (l0_5.length:Int))=true:=decide_eq_true c22;clear c22;obtain ⟨⟨Mb,Ub,Oc,Md,Uc,Od⟩,A230,H⟩:=bs_.mp H;(try dsimp only at H);have A23:=D A230;clear A230;have HU24:=D H;clear H;(try have:=Kc.out);(try have:=Mc.out);have Un:=cells6 Ka.out;have p237:0≤(Ma:Int):=od_ Z48;have q237:Ma < (l0_5.length:Int):=od_ Z48;obtain ⟨ad237,A237_5,c237_5,e237,hx237_0,hx237_1,hx237_2,hx237_3,hx237_4,hx237_5,hl237_5,hi237_5⟩:=at_T50 HR0_5.out Ma p237 q237;cases e237;replace hx237_0:=rc_ HB.out hx237_0;replace hx237_1:=rc_ HB.out hx237_1;replace hx237_2:=rc_ HB.out hx237_2;replace hx237_3:=rc_ HB.out hx237_3;replace hx237_4:=rc_ HB.out hx237_4;replace hx237_5:=rc_ HB.out hx237_5;have HR237_5:=D hi237_5;have HC237_5:=D hl237_5;clear hi237_5 hl237_5;replace p237:=eq_true p237;replace q237:=eq_true q237
     go_upto_if 36 with (first|((with_reducible refine gate_callee (f:=15) rfl ?_);refine goesL_ (some 32) rfl rfl Try.func15 (by kernel_rfl) rfl #[.agg #[I L ((rd_T50 l0_5 Ma).f1.f0),I L ((rd_T50 l0_5 Ma).f1.f1.f0),I L ((rd_T50 l0_5 Ma).f1.f1.f1),I L ((rd_T50 l0_5 Ma).f1.f1.f2),Y A237_5 ((rd_T50 l0_5 Ma).f1.f2).length c237_5],I L a2,I L a3] rfl Z17 ?_;(with_reducible refine (spec_FairJoin.calls k ((rd_T50 l0_5 Ma).f1.f0) ((rd_T50 l0_5 Ma).f1.f1.f0) ((rd_T50 l0_5 Ma).f1.f1.f1) ((rd_T50 l0_5 Ma).f1.f1.f2) _ _ ((rd_T50 l0_5 Ma).f1.f2) a2 a3 Mb Ub Oc Md Uc Od _ ?side1 ?side2 A23.out).mono ?_);(case side1=>exact pC_ (Kd.C_below HR237_5.out HB.out));(case side2=>exact HC237_5.out);rintro e w27 ⟨Up,rfl,ho0,hb⟩;refine ⟨_,rfl,?_⟩;have n_:=an_ (Kd.R_lower ho0 (below_size (pB_ HB.out)))<|an_ (blk_below (pk_ Ka.out) hb)<|an_ (blk_below (pk_ Ja.out) hb)<|D (below_step (pB_ HB.out) hb);clear Ka Ja HB;obtain ⟨Xa,Ka,Ja,HB⟩:=n_;(try clear hb);(try clear ho0))|((with_reducible refine gate_dst (N:=11) rfl ?_);refine bx_ (N:=11) (cs:=#[I L 0,I L 0,I L 0,I L 0,Y none 0 0]) (t:=34) ?_;intro Kb hg w28 hbox hb;have n_:=an_ (Kd.R_below (pR_ Xa.out) hb)<|an_ (blk_below (pk_ Ka.out) hb)<|an_ (blk_below (pk_ Ja.out) hb)<|an_ (below_step (pB_ HB.out) hb)<|an_ (hbox)<|an_ (bg_ hg (pB_ HB.out):w.heap.size≤Kb)<|an_ (bg_ hg (pB_ HB.out):w.heap.size≤Kb)<|an_ (nl_ hg (pk_ Ka.out):Jb≠Kb)<|an_ (ng_ hg (pk_ Ka.out):Kb≠Jb)<|an_ (nl_ hg (pk_ Ja.out):Oa≠Kb)<|D (by rw [hg];exact Nat.ne_of_gt (blk_lt (pk_ Ja.out)):Kb≠Oa);clear Xa Ka Ja HB;obtain ⟨Xa,Ka,Ja,HB,Ua,Xp,Jq,Xc,Of,Xb,Jf⟩:=n_;clear hb hbox hg;(try have:=Of.out);(try have:=Xc.out);(try have:=Jf.out);(try have:=Xb.out);have Kq:=cells5 Ua.out;obtain ⟨Ke,Me,eo32⟩:=Kd.R_slice Xa.out;subst eo32))
     refine relet_ (F:=fun w33=>Aside0 (Kd.R k67 67 w33 w.heap.size (fun _=>True) (Y Ke Uc.length Me) Uc)∧Aside0 (w33.heap[Jb]?=some (.cells #[I L a0_0,I L a0_1,I L a0_2,I L a0_3,Y A0_4 l0_4.length c0_4,Y (some ad237) l0_5.length c0_5] 37 (0,0)))∧Aside0 (w33.heap[Oa]?=some (.cells #[I L 0,I L 0,I L 0,I L 0,Y none 0 0,Y none 0 0] 37 (0,0)))∧Aside0 (w33.heap[Kb]?=some (.cells #[I L Mb,I L Ub,I L Oc,I L Md,Y Ke Uc.length Me] 34 (0,0)))∧Aside0 (Below w.heap.size w w33)) ⟨⟨rM_ (Kd.R_types Xa.out Ua.out (by decide)) (fun _ hk=>trivial)⟩,⟨pP_ Ka.out⟩,⟨pP_ Ja.out⟩,⟨pP_ Ua.out⟩,⟨pB_ HB.out⟩⟩ ?_;(try clear Xa);(try clear Ka);(try clear Ja);(try clear Ua);(try clear HB);rintro w33 ⟨Xa,Ka,Ja,Ua,HB⟩;have H:=HU24.out;clear HU24
     by_cases c34 : Od = 0
     ·rw [if_pos c34] at H
      have c34b0:(Od == 0)=true:=beq_iff_eq.mpr c34;have c34b1:(Od != 0)=false:=bne_eq_false_iff_eq.mpr c34;clear c34;refine rw_ c34b0 ?_;obtain ⟨⟨Ob,Jc,Jd,Ud,Xd,Oe⟩,A350,H⟩:=bs_.mp H;(try dsimp only at H);have A35:=D A350;clear A350;simp only [Option.some.injEq,Prod.mk.injEq] at H;obtain ⟨rfl,rfl,rfl,rfl,rfl,rfl,rfl⟩:=H;(try have:=Kc.out);(try have:=Mc.out);(try have:=Xc.out);(try have:=Of.out);have Xr:=cells6 Ka.out;(try have:=Jf.out);(try have:=Xb.out);have Xu:=cells5 Ua.out
      go_wp2_with (first|((with_reducible refine gate_callee (f:=16) rfl ?_);refine goesL_ (some 44) rfl rfl Try.func16 (by kernel_rfl) rfl #[.agg #[I L a0_0,I L a0_1,I L a0_2,I L a0_3,Y A0_4 l0_4.length c0_4,Y (some ad237) l0_5.length c0_5],.agg #[I L a0_0,I L a0_1,I L a0_2,I L a0_3,Y A0_4 l0_4.length c0_4],I L Ma,.agg #[I L Mb,I L Ub,I L Oc,I L Md,Y Ke Uc.length Me]] rfl Z17 ?_;(with_reducible refine (spec_l20With.calls k a0_0 a0_1 a0_2 a0_3 _ _ l0_4 _ _ l0_5 a0_0 a0_1 a0_2 a0_3 _ _ l0_4 Ma Mb Ub Oc Md _ _ Uc Ob Jc Jd Ud Xd Oe _ ?side1 ?side2 ?side3 ?side4 ?side5 ?side6 ?side7 ?side8 A35.out).mono ?_);(case side1=>exact pC_ (Kd.C_below HR0_4.out HB.out));(case side2=>exact HC0_4.out);(case side3=>exact pC_ (Kd.C_below HR0_5.out HB.out));(case side4=>exact HC0_5.out);(case side5=>exact pC_ (Kd.C_below HR0_4.out HB.out));(case side6=>exact HC0_4.out);(case side7=>exact pC_ ((Kd.R_reads' Xa.out).2.2));(case side8=>exact (Kd.R_reads' Xa.out).2.1);rintro e w41 ⟨Ox,Ux,rfl,ho0,ho1,hb⟩;refine ⟨_,rfl,?_⟩;have n_:=an_ (Kd.R_elder' (pR_ Xa.out) (Kd.R_base ho0) hb)<|an_ (Kd.R_lower (nw_ ho0 (pR_ Xa.out)) (below_size (pB_ HB.out)))<|an_ (Kd.S_lower (Kd.S_new' ho1 (Kd.R_lt (pR_ Xa.out))) (below_size (pB_ HB.out)))<|an_ (blk_below (pk_ Ka.out) hb)<|an_ (blk_below (pk_ Ja.out) hb)<|an_ (blk_below (pk_ Ua.out) hb)<|D (below_step (pB_ HB.out) hb);clear Xa Ka Ja Ua HB;obtain ⟨Xa,Uf,Xf,Ka,Ja,Ua,HB⟩:=n_;(try clear hb);(try clear ho0);(try clear ho1);have Xx:=cells6 Ja.out;obtain ⟨Ue,Xe,eo43⟩:=Kd.R_slice Uf.out;subst eo43;obtain ⟨Kf,Mf,eo44⟩:=Kd.S_slice Xf.out;subst eo44))
      refine bodyPost_ret (results_ct rfl _ _ Oa 37 #[I L Ob,I L Jc,I L Jd,I L Ud,Y Ue Xd.length Xe,Y Kf Oe.length Mf] (0,0) _ rfl (by exact pP_ Ja.out) Try.underlying37 rfl (by kernel_rfl)) rfl ?_;exact ⟨_,_,er_,by (with_reducible repeat (first|apply Kd.R_alloc|apply Kd.R_drewN|apply Kd.R_drew));exact Kd.R_mono (fr_ (fr_ (fr_ (fr_ (fr_ (fr_ (Kd.R_types Uf.out Ja.out (by decide)) 0 (I L Ob)) 1 (I L Jc)) 2 (I L Jd)) 3 (I L Ud)) 4 (Y Ue Xd.length Xe)) 5 (Y Kf Oe.length Mf)) (fun _ hk=>trivial),by (with_reducible repeat (first|apply Kd.S_alloc|apply Kd.S_drewN|apply Kd.S_drew));exact Kd.S_mono (Kd.S_far (p:=⟨Oa,5,none⟩) (Kd.S_far (p:=⟨Oa,4,none⟩) (Kd.S_far (p:=⟨Oa,3,none⟩) (Kd.S_far (p:=⟨Oa,2,none⟩) (Kd.S_far (p:=⟨Oa,1,none⟩) (Kd.S_far (p:=⟨Oa,0,none⟩) (Kd.S_types Xf.out Ja.out (by decide)) (fun _ hk=>hk.2) (I L Ob)) (fun _ hk=>hk.2) (I L Jc)) (fun _ hk=>hk.2) (I L Jd)) (fun _ hk=>hk.2) (I L Ud)) (fun _ hk=>hk.2) (Y Ue Xd.length Xe)) (fun _ hk=>hk.2) (Y Kf Oe.length Mf)) (fun _ hk=>hk.1.1),pB_ HB.out⟩
     ·rw [if_neg c34] at H
      have c34b0:(Od == 0)=false:=beq_eq_false_iff_ne.mpr c34;have c34b1:(Od != 0)=true:=bne_iff_ne.mpr c34;refine rw_ c34b0 ?_;simp only [Option.some.injEq,Prod.mk.injEq] at H;obtain ⟨rfl,rfl,rfl,rfl,rfl,rfl,rfl⟩:=H;(try have:=Mc.out);(try have:=Kc.out);(try have:=Xb.out);(try have:=Jf.out);have Xz:=cells6 Ja.out
      go_wp2
      refine bodyPost_ret (results_ct rfl _ _ Oa 37 #[I L 0,I L 0,I L 0,I L 0,Y none 0 0,Y none 0 0] (0,0) _ rfl Z3 Try.underlying37 rfl (by kernel_rfl)) rfl ?_;exact ⟨_,_,er_,by first|exact Kd.R_nil _ _ _ _ _|exact Kd.N_nil _ _ _ _ _|exact Kd.V_nil _ _ _ _ _|exact Kd.Q_nil _ _ _ _ _|exact Kd.S_nil _ _ _ _ _,by first|exact Kd.S_nil _ _ _ _ _|exact Kd.N_nil _ _ _ _ _|exact Kd.V_nil _ _ _ _ _|exact Kd.Q_nil _ _ _ _ _|exact Kd.R_nil _ _ _ _ _,pB_ HB.out⟩
    ·rw [if_neg c22] at H
     exact absurd H (by simp)
   ·rw [if_neg c21] at H
    exact absurd H (by simp)
 ·replace c12 := Bool.eq_false_iff.mpr c12
  subst c12;rw [if_neg (show ¬ (false=true) by decide)] at H;simp only [Option.some.injEq,Prod.mk.injEq] at H;obtain ⟨rfl,rfl,rfl,rfl,rfl,rfl,rfl⟩:=H;(try have:=Mc.out);(try have:=Kc.out);have Xb1:=cells6 Ja.out
  go_wp2
  refine bodyPost_ret (results_ct rfl _ _ Oa 37 #[I L 0,I L 0,I L 0,I L 0,Y none 0 0,Y none 0 0] (0,0) _ rfl Z3 Try.underlying37 rfl (by kernel_rfl)) rfl ?_;exact ⟨_,_,er_,by first|exact Kd.R_nil _ _ _ _ _|exact Kd.N_nil _ _ _ _ _|exact Kd.V_nil _ _ _ _ _|exact Kd.Q_nil _ _ _ _ _|exact Kd.S_nil _ _ _ _ _,by first|exact Kd.S_nil _ _ _ _ _|exact Kd.N_nil _ _ _ _ _|exact Kd.V_nil _ _ _ _ _|exact Kd.Q_nil _ _ _ _ _|exact Kd.R_nil _ _ _ _ _,pB_ HB.out⟩

/-! ### laws_toVec: function 35 -/
def laws_toVec.f (a0_0 a0_1 a0_2 : Int) : Option (Int × Int × Int) := some (a0_0, a0_1, a0_2)
set_option maxHeartbeats 8000000 in
set_option maxRecDepth 100000 in
theorem laws_toVec.calls (a0_0 a0_1 a0_2 r1 r2 r3 : Int) (w : World) (h : laws_toVec.f a0_0 a0_1 a0_2 = some (r1, r2, r3)) :
  Calls Try.prog 35 #[.agg #[I L a0_0, I L a0_1, I L a0_2]] w fun e w' => e = .returned (.agg #[I L r1, I L r2, I L r3]) ∧ Below w.heap.size w w' := by
 have hu23 := Try.underlying23
 have hu31 := Try.underlying31
 have HB := D (Below.refl w.heap.size w)
 have H : (some (a0_0, a0_1, a0_2)) = some (r1, r2, r3) := h
 clear h
 simp only [Option.some.injEq, Prod.mk.injEq] at H
 obtain ⟨rfl, rfl, rfl⟩ := H
 go_enter Try.func35, Try.ntmps35
 go_wp2_with (first|((with_reducible refine gate_dst (N:=1) rfl ?_);refine bx_ (N:=1) (cs:=#[I L a0_0,I L a0_1,I L a0_2]) (t:=23) ?_;intro gb257 hg w2 hbox hb;have n_:=an_ (below_step (pB_ HB.out) hb)<|an_ (hbox)<|an_ (bg_ hg (pB_ HB.out):w.heap.size≤gb257)<|D (bg_ hg (pB_ HB.out):w.heap.size≤gb257);clear HB;obtain ⟨HB,BK257,GW257,GE257⟩:=n_;clear hb hbox hg)|((with_reducible refine gate_dst (N:=2) rfl ?_);refine bx_ (N:=2) (cs:=#[I L 0,I L 0,I L 0]) (t:=31) ?_;intro gb258 hg w3 hbox hb;have n_:=an_ (blk_below (pk_ BK257.out) hb)<|an_ (below_step (pB_ HB.out) hb)<|an_ (hbox)<|an_ (bg_ hg (pB_ HB.out):w.heap.size≤gb258)<|an_ (bg_ hg (pB_ HB.out):w.heap.size≤gb258)<|an_ (nl_ hg (pk_ BK257.out):gb257≠gb258)<|D (by rw [hg];exact Nat.ne_of_gt (blk_lt (pk_ BK257.out)):gb258≠gb257);clear BK257 HB;obtain ⟨BK257,HB,BK258,GW258,GE258,NB257_258,NB258_257⟩:=n_;clear hb hbox hg)|((with_reducible refine gate_dst (N:=3) rfl ?_);refine bx_ (N:=3) (cs:=#[I L 0,I L 0,I L 0]) (t:=31) ?_;intro gb259 hg w4 hbox hb;have n_:=an_ (blk_below (pk_ BK257.out) hb)<|an_ (blk_below (pk_ BK258.out) hb)<|an_ (below_step (pB_ HB.out) hb)<|an_ (hbox)<|an_ (bg_ hg (pB_ HB.out):w.heap.size≤gb259)<|an_ (bg_ hg (pB_ HB.out):w.heap.size≤gb259)<|an_ (nl_ hg (pk_ BK257.out):gb257≠gb259)<|an_ (ng_ hg (pk_ BK257.out):gb259≠gb257)<|an_ (nl_ hg (pk_ BK258.out):gb258≠gb259)<|D (by rw [hg];exact Nat.ne_of_gt (blk_lt (pk_ BK258.out)):gb259≠gb258);clear BK257 BK258 HB;obtain ⟨BK257,BK258,HB,BK259,GW259,GE259,NB257_259,NB259_257,NB258_259,NB259_258⟩:=n_;clear hb hbox hg;(try have:=NB257_258.out);(try have:=NB258_257.out);(try have:=NB257_259.out);(try have:=NB259_257.out);have hcz7_0:=cells3 BK257.out;(try have:=NB259_258.out);(try have:=NB258_259.out);have hcz9_0:=cells3 BK259.out;have hcz10_0:=cells3 BK258.out))
 refine bodyPost_ret (results_cell_row rfl _ _ gb258 31 #[I L a0_0,I L a0_1,I L a0_2] (0,0) _ rfl (by exact pP_ BK258.out) Try.underlying31 rfl (by kernel_rfl)) rfl ?_
 exact ⟨er_, pB_ HB.out⟩

/-! ### laws_toKid: function 53 -/
def laws_toKid.f (a0_0 a0_1 : Int) (a0_2 : Bool) (a0_3 a0_4 a0_5 : Int) : Option (Int × Int × Bool × Int × Int × Int) := (laws_toVec.f a0_3 a0_4 a0_5).bind fun bt263 => (some (a0_0, a0_1, a0_2, bt263.1, bt263.2.1, bt263.2.2))
set_option maxHeartbeats 8000000 in
set_option maxRecDepth 100000 in
theorem laws_toKid.calls (a0_0 a0_1 : Int) (a0_2 : Bool) (a0_3 a0_4 a0_5 r1 r2 : Int) (r3 : Bool) (r4 r5 r6 : Int) (w : World) (h : laws_toKid.f a0_0 a0_1 a0_2 a0_3 a0_4 a0_5 = some (r1, r2, r3, r4, r5, r6)) :
  Calls Try.prog 53 #[.agg #[I L a0_0,I L a0_1,.bool a0_2,I L a0_3,I L a0_4,I L a0_5]] w fun e w'=>e=.returned (.agg #[I L r1,I L r2,.bool r3,I L r4,I L r5,I L r6])∧Below w.heap.size w w':=by
 have hu86 := Try.underlying86
 have hu67 := Try.underlying67
 have hu23 := Try.underlying23
 have hu31 := Try.underlying31
 have HB := D (Below.refl w.heap.size w)
 have H : ((laws_toVec.f a0_3 a0_4 a0_5).bind fun bt263 => (some (a0_0, a0_1, a0_2, bt263.1, bt263.2.1, bt263.2.2))) = some (r1, r2, r3, r4, r5, r6) := h
 clear h
 obtain ⟨⟨t263, t264, t265⟩, A20, H⟩ := bs_.mp H
 (try dsimp only at H)
 have A2 := D A20
 clear A20
 simp only [Option.some.injEq, Prod.mk.injEq] at H
 obtain ⟨rfl, rfl, rfl, rfl, rfl, rfl⟩ := H
 go_enter Try.func53, Try.ntmps53
 go_wp2_with (first|((with_reducible refine gate_dst (N:=1) rfl ?_);refine bx_ (N:=1) (cs:=#[I L a0_0,I L a0_1,.bool a0_2,I L a0_3,I L a0_4,I L a0_5]) (t:=86) ?_;intro gb260 hg w3 hbox hb;have n_:=an_ (below_step (pB_ HB.out) hb)<|an_ (hbox)<|an_ (bg_ hg (pB_ HB.out):w.heap.size≤gb260)<|D (bg_ hg (pB_ HB.out):w.heap.size≤gb260);clear HB;obtain ⟨HB,BK260,GW260,GE260⟩:=n_;clear hb hbox hg)|((with_reducible refine gate_dst (N:=2) rfl ?_);refine bx_ (N:=2) (cs:=#[I L 0,I L 0,.bool false,I L 0,I L 0,I L 0]) (t:=67) ?_;intro gb261 hg w4 hbox hb;have n_:=an_ (blk_below (pk_ BK260.out) hb)<|an_ (below_step (pB_ HB.out) hb)<|an_ (hbox)<|an_ (bg_ hg (pB_ HB.out):w.heap.size≤gb261)<|an_ (bg_ hg (pB_ HB.out):w.heap.size≤gb261)<|an_ (nl_ hg (pk_ BK260.out):gb260≠gb261)<|D (by rw [hg];exact Nat.ne_of_gt (blk_lt (pk_ BK260.out)):gb261≠gb260);clear BK260 HB;obtain ⟨BK260,HB,BK261,GW261,GE261,NB260_261,NB261_260⟩:=n_;clear hb hbox hg)|((with_reducible refine gate_dst (N:=3) rfl ?_);refine bx_ (N:=3) (cs:=#[I L 0,I L 0,.bool false,I L 0,I L 0,I L 0]) (t:=67) ?_;intro gb262 hg w5 hbox hb;have n_:=an_ (blk_below (pk_ BK260.out) hb)<|an_ (blk_below (pk_ BK261.out) hb)<|an_ (below_step (pB_ HB.out) hb)<|an_ (hbox)<|an_ (bg_ hg (pB_ HB.out):w.heap.size≤gb262)<|an_ (bg_ hg (pB_ HB.out):w.heap.size≤gb262)<|an_ (nl_ hg (pk_ BK260.out):gb260≠gb262)<|an_ (ng_ hg (pk_ BK260.out):gb262≠gb260)<|an_ (nl_ hg (pk_ BK261.out):gb261≠gb262)<|D (by rw [hg];exact Nat.ne_of_gt (blk_lt (pk_ BK261.out)):gb262≠gb261);clear BK260 BK261 HB;obtain ⟨BK260,BK261,HB,BK262,GW262,GE262,NB260_262,NB262_260,NB261_262,NB262_261⟩:=n_;clear hb hbox hg;(try have:=NB260_261.out);(try have:=NB261_260.out);(try have:=NB260_262.out);(try have:=NB262_260.out);have hcz8_0:=cells6 BK260.out;(try have:=NB262_261.out);(try have:=NB261_262.out);have hcz10_0:=cells6 BK262.out)|((with_reducible refine gate_callee (f:=35) rfl ?_);refine goesL_ (some 15) rfl rfl Try.func35 (by kernel_rfl) rfl #[.agg #[I L a0_3,I L a0_4,I L a0_5]] rfl Z17 ?_;(with_reducible refine (laws_toVec.calls a0_3 a0_4 a0_5 t263 t264 t265 _ A2.out).mono ?_);rintro e w11 ⟨rfl,hb⟩;refine ⟨_,rfl,?_⟩;have n_:=an_ (blk_below (g:=gb260) (o:=.cells #[I L a0_0,I L a0_1,.bool a0_2,I L a0_3,I L a0_4,I L a0_5] 86 (0,0)) (by exact pP_ BK260.out) hb)<|an_ (blk_below (g:=gb261) (o:=.cells #[I L 0,I L 0,.bool false,I L 0,I L 0,I L 0] 67 (0,0)) (by exact pP_ BK261.out) hb)<|an_ (blk_below (g:=gb262) (o:=.cells #[I L a0_0,I L a0_1,.bool a0_2,I L 0,I L 0,I L 0] 67 (0,0)) (by exact pP_ BK262.out) hb)<|D (below_step (pB_ HB.out) hb);clear BK260 BK261 BK262 HB;obtain ⟨BK260,BK261,BK262,HB⟩:=n_;(try clear hb);have hcz12_0:=cells6 BK262.out;have hcz13_0:=cells6 BK261.out))
 refine bodyPost_ret (results_cell_row rfl _ _ gb261 67 #[I L a0_0,I L a0_1,.bool a0_2,I L t263,I L t264,I L t265] (0,0) _ rfl (by exact pP_ BK261.out) Try.underlying67 rfl (by kernel_rfl)) rfl ?_
 exact ⟨er_, pB_ HB.out⟩

/-! ### laws_toKidS: function 36 -/
def laws_toKidS.l0 : Nat → List (S86) → List (S67) → Int → Option ((List (S67)))
 | 0, _, _, _ => none
 | k + 1,x0,x3,x4=>if x4 < (x0.length:Int) then (if 0≤x4 then ((laws_toKid.f ((rd_T86 x0 x4).f0) ((rd_T86 x0 x4).f1) ((rd_T86 x0 x4).f2) ((rd_T86 x0 x4).f3.f0) ((rd_T86 x0 x4).f3.f1) ((rd_T86 x0 x4).f3.f2)).bind fun bt270=>(if x4 < (x3.length:Int) then (laws_toKidS.l0 k x0 (x3.set (x4:Int).toNat (⟨bt270.1,bt270.2.1,bt270.2.2.1,(⟨bt270.2.2.2.1,bt270.2.2.2.2.1,bt270.2.2.2.2.2⟩:S31)⟩:S67)) (wrap64 (x4 + 1))) else (none))) else (none)) else (some x3)
def laws_toKidS.f (k : Nat) (l0 : List (S86)) : Option ((List (S67))) := if 0 ≤ (l0.length : Int) then (if ((l0.length : Int) : Int).toNat ≤ 5864062014805 then (laws_toKidS.l0 k l0 (List.replicate ((l0.length : Int) : Int).toNat z67) 0) else (none)) else (none)
set_option maxHeartbeats 8000000 in
set_option maxRecDepth 100000 in
theorem laws_toKidS.calls (k : Nat) (A0 : Option Addr) (c0 : Nat) (l0 : List (S86)) (r : List (S67)) (w : World) (hr0 : Kd.C k86 w A0 l0.length l0) (hc0 : l0.length ≤ c0) (h : laws_toKidS.f k l0 = some r) :
  Calls Try.prog 36 #[Y A0 l0.length c0] w fun e w' => ∃ v0_ : Value, e = .returned (v0_) ∧ Kd.R k67 67 w' w.heap.size (fun _ => True) v0_ r ∧ Below w.heap.size w w' := by
 have hu86 := Try.underlying86
 have hu67 := Try.underlying67
 have HR0 := D hr0
 have HC0 := D hc0
 clear hr0 hc0
 have HB := D (Below.refl w.heap.size w)
 have H:(if 0≤(l0.length:Int) then (if ((l0.length:Int):Int).toNat≤5864062014805 then (laws_toKidS.l0 k l0 (List.replicate ((l0.length:Int):Int).toNat z67) 0) else (none)) else (none))=some r:=h
 clear h
 by_cases c2 : 0 ≤ (l0.length : Int)
 ·rw [if_pos c2] at H
  have c2b0 := eq_true c2; have c2b1 : decide (0 ≤ (l0.length : Int)) = true := decide_eq_true c2; clear c2
  by_cases c3 : ((l0.length : Int) : Int).toNat ≤ 5864062014805
  ·rw [if_pos c3] at H
   have c3b0:=eq_true c3;have c3b1:decide (((l0.length:Int):Int).toNat≤5864062014805)=true:=decide_eq_true c3;clear c3;obtain ⟨y266,hy266⟩:∃ y_:List (S67),y_=(List.replicate ((l0.length:Int):Int).toNat z67):=⟨_,rfl⟩
   replace H:(laws_toKidS.l0 k l0 y266 0)=some r:=by first|(rw [hy266];with_reducible exact H)|(have H2_:=(Option.bind_some _ _).symm.trans H;rw [hy266];with_reducible exact H2_)|(have H2_:=(Option.bind_some _ _).symm.trans H;with_reducible exact H2_)|with_reducible exact H|(rw [hy266];exact H)|exact H
   have Ny266 := D hy266; clear hy266; have H' := D H; clear H; go_enter Try.func36, Try.ntmps36
   go_wp2_with (first|((with_reducible refine gate_dst (N:=7) rfl ?_);refine Kd.R_make k67 _ 67 rfl (N:=7) rfl 32 _ _ rfl (l0.length:Int) rfl rfl Try.underlying32 (.agg #[(I L 0),(I L 0),(.bool false),(I L 0),(I L 0),(I L 0)]) 48 info67 rfl (by decide) (by omega) z67 (ok:=fun _=>True) (okp:=fun _=>True) (k67_mkM _ _ _ z67 ) (fun _ hk=>hk) trivial (od_ Z48) (Nat.le_trans (Nat.mul_le_mul_right _ (od_ Z48:(l0.length:Int).toNat≤5864062014805)) (by omega)) (Below.refl _ _) (Nat.le_refl _) ?_;intro v267 w4 ho5 hb hg_ hnew_;clear hg_ hnew_;(first|rw [← Ny266.out] at ho5|(simp only [Int.reduceToNat] at ho5;rw [← Ny266.out] at ho5));have n_:=an_ (Kd.R_lower ho5 (below_size (pB_ HB.out)))<|D (below_step (pB_ HB.out) hb);clear HB;obtain ⟨HO268,HB⟩:=n_;clear hb ho5))
   go_loopg [4] k (fun kq v4 w'=>∃ (x3_1:List (S67)) (x4_1:Int),v4=I L x4_1∧Aside0 (laws_toKidS.l0 kq l0 x3_1 x4_1=some r)∧Aside0 (kq≤k)∧Aside0 (Kd.R k67 67 w' w.heap.size (fun _=>True) v267 x3_1)∧Aside0 (Below w.heap.size w w'))
   case atStart => exact ⟨(y266), (0), Z49, H', ⟨Nat.le_refl _⟩, ⟨pR_ HO268.out⟩, ⟨pB_ HB.out⟩⟩
   case round =>
    clear H'
    (try clear c2);(try clear c2b0);(try clear c2b1);(try clear p2);(try clear c3);(try clear c3b0);(try clear c3b1)
    obtain ⟨x3_1, x4_1, rfl, HA, HK1, HO_3, HB⟩ := hrel
    cases gk with
    | zero => exact absurd HA.out (by simp [laws_toKidS.l0])
    | succ k1 =>
     have H := HA.out; clear HA; simp only [laws_toKidS.l0] at H
     by_cases c6 : x4_1 < (l0.length : Int)
     ·rw [if_pos c6] at H
      have c6b0 : decide (x4_1 < (l0.length : Int)) = true := decide_eq_true c6; clear c6
      by_cases c7 : 0 ≤ x4_1
      ·rw [if_pos c7] at H
       have c7b0:decide (0≤x4_1)=true:=decide_eq_true c7;clear c7;obtain ⟨⟨t270,t271,t272,t273,t274,t275⟩,A80,H⟩:=bs_.mp H;(try dsimp only at H);have A8:=D A80;clear A80
       by_cases c9 : x4_1 < (x3_1.length : Int)
       ·rw [if_pos c9] at H
        have c9b0:decide (x4_1 < (x3_1.length:Int))=true:=decide_eq_true c9;clear c9;obtain ⟨y276,hy276⟩:∃ y_:List (S67),y_=(x3_1.set (x4_1:Int).toNat (⟨t270,t271,t272,(⟨t273,t274,t275⟩:S31)⟩:S67)):=⟨_,rfl⟩
        replace H:(laws_toKidS.l0 k1 l0 y276 (wrap64 (x4_1 + 1)))=some r:=by first|(rw [hy276];with_reducible exact H)|(have H2_:=(Option.bind_some _ _).symm.trans H;rw [hy276];with_reducible exact H2_)|(have H2_:=(Option.bind_some _ _).symm.trans H;with_reducible exact H2_)|with_reducible exact H|(rw [hy276];exact H)|exact H
        have Ny276:=D hy276;clear hy276;have H':=D H;clear H;have p269:0≤(x4_1:Int):=od_ Z48;have q269:x4_1 < (l0.length:Int):=od_ Z48;obtain ⟨ad269,e269,hx269_0,hx269_1,hx269_2,hx269_3,hx269_4,hx269_5⟩:=at_T86 HR0.out x4_1 p269 q269;cases e269;replace hx269_0:=rc_ HB.out hx269_0;replace hx269_1:=rc_ HB.out hx269_1;replace hx269_2:=rc_ HB.out hx269_2;replace hx269_3:=rc_ HB.out hx269_3;replace hx269_4:=rc_ HB.out hx269_4;replace hx269_5:=rc_ HB.out hx269_5;replace p269:=eq_true p269;replace q269:=eq_true q269
        go_wp2_with (first|((with_reducible refine gate_callee (f:=53) rfl ?_);refine goesL_ (some 20) rfl rfl Try.func53 (by kernel_rfl) rfl #[.agg #[I L ((rd_T86 l0 x4_1).f0),I L ((rd_T86 l0 x4_1).f1),.bool ((rd_T86 l0 x4_1).f2),I L ((rd_T86 l0 x4_1).f3.f0),I L ((rd_T86 l0 x4_1).f3.f1),I L ((rd_T86 l0 x4_1).f3.f2)]] rfl Z17 ?_;(with_reducible refine (laws_toKid.calls ((rd_T86 l0 x4_1).f0) ((rd_T86 l0 x4_1).f1) ((rd_T86 l0 x4_1).f2) ((rd_T86 l0 x4_1).f3.f0) ((rd_T86 l0 x4_1).f3.f1) ((rd_T86 l0 x4_1).f3.f2) t270 t271 t272 t273 t274 t275 _ A8.out).mono ?_);rintro e w11 ⟨rfl,hb⟩;refine ⟨_,rfl,?_⟩;have n_:=an_ (Kd.R_below (pR_ HO_3.out) hb)<|D (below_step (pB_ HB.out) hb);clear HO_3 HB;obtain ⟨HO_3,HB⟩:=n_;(try clear hb);have p10:0≤(x4_1:Int):=od_ Z48;have q10:(x4_1:Int) < ((x3_1.length:Int):Int):=od_ Z48;obtain ⟨go10,co10,eo10,gb10,gl10,cl10,HG10⟩:=Kd.R_form HO_3.out (by omega);(first|cases eo10|(injection eo10 with ea_ en_ ec_;(first|subst ea_|(injection ea_ with ea_;subst ea_));subst ec_;clear en_));have GB10:=D gb10;have GG10:=D HG10;clear gb10 gl10 HG10;obtain ⟨ce10,hcl10,hM10,hcc10,hfr10⟩:=Kd.R_elem HO_3.out z67 (x4_1:Int) p10 q10;obtain rfl:=k67_openM hM10;have hx10_0:w11.cell? ⟨go10,(x4_1:Int).toNat * 6,none⟩=some (I L ((rd_T67 x3_1 x4_1).f0)):=hcc10 0 _ rfl;have hx10_1:w11.cell? ⟨go10,(x4_1:Int).toNat * 6 + 1,none⟩=some (I L ((rd_T67 x3_1 x4_1).f1)):=hcc10 1 _ rfl;have hx10_2:w11.cell? ⟨go10,(x4_1:Int).toNat * 6 + 2,none⟩=some (.bool ((rd_T67 x3_1 x4_1).f2)):=hcc10 2 _ rfl;have hx10_3:w11.cell? ⟨go10,(x4_1:Int).toNat * 6 + 3,none⟩=some (I L ((rd_T67 x3_1 x4_1).f3.f0)):=hcc10 3 _ rfl;have hx10_4:w11.cell? ⟨go10,(x4_1:Int).toNat * 6 + 4,none⟩=some (I L ((rd_T67 x3_1 x4_1).f3.f1)):=hcc10 4 _ rfl;have hx10_5:w11.cell? ⟨go10,(x4_1:Int).toNat * 6 + 5,none⟩=some (I L ((rd_T67 x3_1 x4_1).f3.f2)):=hcc10 5 _ rfl;have hf10_0:w11.frozen? ⟨go10,(x4_1:Int).toNat * 6,none⟩=false:=hfr10 0;have hf10_1:w11.frozen? ⟨go10,(x4_1:Int).toNat * 6 + 1,none⟩=false:=hfr10 1;have hf10_2:w11.frozen? ⟨go10,(x4_1:Int).toNat * 6 + 2,none⟩=false:=hfr10 2;have hf10_3:w11.frozen? ⟨go10,(x4_1:Int).toNat * 6 + 3,none⟩=false:=hfr10 3;have hf10_4:w11.frozen? ⟨go10,(x4_1:Int).toNat * 6 + 4,none⟩=false:=hfr10 4;have hf10_5:w11.frozen? ⟨go10,(x4_1:Int).toNat * 6 + 5,none⟩=false:=hfr10 5;clear hcl10 hcc10 hfr10 hM10;replace p10:=eq_true p10;replace q10:=eq_true q10;have HX12:=D (show Kd.R k67 67 w11 w.heap.size (fun _=>True) (Y (some ⟨go10,0,none⟩) x3_1.length co10) x3_1 from (pR_ HO_3.out));obtain ⟨ce12,hcl12,hM12,hcc12,hfr12⟩:=Kd.R_elem HX12.out z67 (x4_1:Int) (od_ Z48) (by have h_:(x4_1:Int) < ((x3_1.length:Int):Int):=od_ Z48;first|exact h_|(have e_:=(Kd.R_reads' HO_3.out).1;omega)|simpa using h_);obtain rfl:=k67_openM hM12;have HP12:=Kd.R_seg HX12.out (x4_1:Int) (od_ Z48) (by have h_:(x4_1:Int) < ((x3_1.length:Int):Int):=od_ Z48;first|exact h_|(have e_:=(Kd.R_reads' HO_3.out).1;omega)|simpa using h_) (seg:=[I L t270,I L t271,.bool t272,I L t273,I L t274,I L t275]) (j:=0) hcl12 hcc12 (show 6≤6 from by decide) (x':=(⟨t270,t271,t272,(⟨t273,t274,t275⟩:S31)⟩:S67)) (k67_mkM _ _ _ (⟨t270,t271,t272,(⟨t273,t274,t275⟩:S31)⟩:S67) ) (fun _ hk=>hk);have hx12_0:=hcc12 0 _ rfl;(try simp only [show (k67).sz=6 from rfl,Nat.mul_one,Nat.add_zero] at hx12_0);have hf12_0:=hfr12 0;(try simp only [show (k67).sz=6 from rfl,Nat.mul_one,Nat.add_zero] at hf12_0);have hx12_1:=hcc12 1 _ rfl;(try simp only [show (k67).sz=6 from rfl,Nat.mul_one,Nat.add_zero] at hx12_1);have hf12_1:=hfr12 1;(try simp only [show (k67).sz=6 from rfl,Nat.mul_one,Nat.add_zero] at hf12_1);have hx12_2:=hcc12 2 _ rfl;(try simp only [show (k67).sz=6 from rfl,Nat.mul_one,Nat.add_zero] at hx12_2);have hf12_2:=hfr12 2;(try simp only [show (k67).sz=6 from rfl,Nat.mul_one,Nat.add_zero] at hf12_2);have hx12_3:=hcc12 3 _ rfl;(try simp only [show (k67).sz=6 from rfl,Nat.mul_one,Nat.add_zero] at hx12_3);have hf12_3:=hfr12 3;(try simp only [show (k67).sz=6 from rfl,Nat.mul_one,Nat.add_zero] at hf12_3);have hx12_4:=hcc12 4 _ rfl;(try simp only [show (k67).sz=6 from rfl,Nat.mul_one,Nat.add_zero] at hx12_4);have hf12_4:=hfr12 4;(try simp only [show (k67).sz=6 from rfl,Nat.mul_one,Nat.add_zero] at hf12_4);have hx12_5:=hcc12 5 _ rfl;(try simp only [show (k67).sz=6 from rfl,Nat.mul_one,Nat.add_zero] at hx12_5);have hf12_5:=hfr12 5;(try simp only [show (k67).sz=6 from rfl,Nat.mul_one,Nat.add_zero] at hf12_5);clear hcl12 hcc12 hfr12 hM12)|((with_reducible refine gate_store (t:=67) (p:=21) rfl ?_);refine store_event (t:=67) (p:=21) (v:=?vo_w13) (w1:=((((((w11.setCell ⟨go10,(x4_1:Int).toNat * 6,none⟩ (I L t270)).setCell ⟨go10,(x4_1:Int).toNat * 6 + 1,none⟩ (I L t271)).setCell ⟨go10,(x4_1:Int).toNat * 6 + 2,none⟩ (.bool t272)).setCell ⟨go10,(x4_1:Int).toNat * 6 + 3,none⟩ (I L t273)).setCell ⟨go10,(x4_1:Int).toNat * 6 + 4,none⟩ (I L t274)).setCell ⟨go10,(x4_1:Int).toNat * 6 + 5,none⟩ (I L t275))) ?hg ?ho ?hn ?hr ?_;(case ho=>rfl);(case hg=>rfl);(case hn=>rfl);(case hr=>first|(go_simp;done)|(go_simp;rfl));intro w13 hw;have hg:w11.grownBy w13 (some go10):=Z50;have hp_:Kd.R k67 67 w13 w.heap.size (fun _=>True) (Y (some ⟨go10,0,none⟩) x3_1.length co10) y276:=(by rw [hw,Ny276.out];exact HP12.1);clear HP12;have n_:=an_ (hp_)<|D (by rw [hw];exact below_set (below_set (below_set (below_set (below_set (below_set (HB.out) GB10.out) GB10.out) GB10.out) GB10.out) GB10.out) GB10.out:Below w.heap.size w w13);clear HO_3 HB;obtain ⟨HO_3,HB⟩:=n_;clear hg hw hp_))
        go_roundg k1
        case measure => have := HK1.out; omega
        case rel => exact ⟨(y276), (wrap64 (x4_1 + 1)), Z49, H', ⟨by have := HK1.out; omega⟩, ⟨pR_ HO_3.out⟩, ⟨pB_ HB.out⟩⟩
       ·rw [if_neg c9] at H
        exact absurd H (by simp)
      ·rw [if_neg c7] at H
       exact absurd H (by simp)
     ·rw [if_neg c6] at H
      have c6b0 : decide (x4_1 < (l0.length : Int)) = false := decide_eq_false c6; clear c6; obtain rfl := Option.some.inj H
      go_wp2
      go_ret;exact ⟨_,er_,by (with_reducible repeat (first|apply Kd.R_alloc|apply Kd.R_drewN|apply Kd.R_drew));exact HO_3.out,pB_ HB.out⟩
  ·rw [if_neg c3] at H
   exact absurd H (by simp)
 ·rw [if_neg c2] at H
  exact absurd H (by simp)

/-! ### laws_toFair: function 17 -/
def laws_toFair.f (k : Nat) (a0_0 a0_1 a0_2 a0_3 : Int) (l0_4 : List (S86)) : Option (Int × Int × Int × Int × (List (S67))) := (laws_toVec.f a0_1 a0_2 a0_3).bind fun bt280 => ((laws_toKidS.f k l0_4).bind fun t283 => (some (a0_0, bt280.1, bt280.2.1, bt280.2.2, t283)))
set_option maxHeartbeats 8000000 in
set_option maxRecDepth 100000 in
theorem laws_toFair.calls (k : Nat) (a0_0 a0_1 a0_2 a0_3 : Int) (A0_4 : Option Addr) (c0_4 : Nat) (l0_4 : List (S86)) (r1 r2 r3 r4 : Int) (r5 : List (S67)) (w : World) (hr0_4 : Kd.C k86 w A0_4 l0_4.length l0_4) (hc0_4 : l0_4.length ≤ c0_4) (h : laws_toFair.f k a0_0 a0_1 a0_2 a0_3 l0_4 = some (r1, r2, r3, r4, r5)) :
  Calls Try.prog 17 #[.agg #[I L a0_0,I L a0_1,I L a0_2,I L a0_3,Y A0_4 l0_4.length c0_4]] w fun e w'=>∃ v4_:Value,e=.returned (.agg #[I L r1,I L r2,I L r3,I L r4,v4_])∧Kd.R k67 67 w' w.heap.size (fun _=>True) v4_ r5∧Below w.heap.size w w':=by
 have hu26 := Try.underlying26
 have hu34 := Try.underlying34
 have hu23 := Try.underlying23
 have hu31 := Try.underlying31
 have HR0_4 := D hr0_4
 have HC0_4 := D hc0_4
 clear hr0_4 hc0_4
 have HB := D (Below.refl w.heap.size w)
 have H : ((laws_toVec.f a0_1 a0_2 a0_3).bind fun bt280 => ((laws_toKidS.f k l0_4).bind fun t283 => (some (a0_0, bt280.1, bt280.2.1, bt280.2.2, t283)))) = some (r1, r2, r3, r4, r5) := h
 clear h
 obtain ⟨⟨t280, t281, t282⟩, A20, H⟩ := bs_.mp H
 (try dsimp only at H)
 have A2 := D A20
 clear A20
 obtain ⟨t283, A30, H⟩ := bs_.mp H
 (try dsimp only at H)
 have A3 := D A30
 clear A30
 simp only [Option.some.injEq, Prod.mk.injEq] at H
 obtain ⟨rfl, rfl, rfl, rfl, rfl⟩ := H
 go_enter Try.func17, Try.ntmps17
 go_wp2_with (first|((with_reducible refine gate_dst (N:=1) rfl ?_);refine bx_ (N:=1) (cs:=#[I L a0_0,I L a0_1,I L a0_2,I L a0_3,Y A0_4 l0_4.length c0_4]) (t:=26) ?_;intro gb277 hg w4 hbox hb;have n_:=an_ (below_step (pB_ HB.out) hb)<|an_ (hbox)<|an_ (bg_ hg (pB_ HB.out):w.heap.size≤gb277)<|D (bg_ hg (pB_ HB.out):w.heap.size≤gb277);clear HB;obtain ⟨HB,BK277,GW277,GE277⟩:=n_;clear hb hbox hg)|((with_reducible refine gate_dst (N:=2) rfl ?_);refine bx_ (N:=2) (cs:=#[I L 0,I L 0,I L 0,I L 0,Y none 0 0]) (t:=34) ?_;intro gb278 hg w5 hbox hb;have n_:=an_ (blk_below (pk_ BK277.out) hb)<|an_ (below_step (pB_ HB.out) hb)<|an_ (hbox)<|an_ (bg_ hg (pB_ HB.out):w.heap.size≤gb278)<|an_ (bg_ hg (pB_ HB.out):w.heap.size≤gb278)<|an_ (nl_ hg (pk_ BK277.out):gb277≠gb278)<|D (by rw [hg];exact Nat.ne_of_gt (blk_lt (pk_ BK277.out)):gb278≠gb277);clear BK277 HB;obtain ⟨BK277,HB,BK278,GW278,GE278,NB277_278,NB278_277⟩:=n_;clear hb hbox hg)|((with_reducible refine gate_dst (N:=3) rfl ?_);refine bx_ (N:=3) (cs:=#[I L 0,I L 0,I L 0,I L 0,Y none 0 0]) (t:=34) ?_;intro gb279 hg w6 hbox hb;have n_:=an_ (blk_below (pk_ BK277.out) hb)<|an_ (blk_below (pk_ BK278.out) hb)<|an_ (below_step (pB_ HB.out) hb)<|an_ (hbox)<|an_ (bg_ hg (pB_ HB.out):w.heap.size≤gb279)<|an_ (bg_ hg (pB_ HB.out):w.heap.size≤gb279)<|an_ (nl_ hg (pk_ BK277.out):gb277≠gb279)<|an_ (ng_ hg (pk_ BK277.out):gb279≠gb277)<|an_ (nl_ hg (pk_ BK278.out):gb278≠gb279)<|D (by rw [hg];exact Nat.ne_of_gt (blk_lt (pk_ BK278.out)):gb279≠gb278);clear BK277 BK278 HB;obtain ⟨BK277,BK278,HB,BK279,GW279,GE279,NB277_279,NB279_277,NB278_279,NB279_278⟩:=n_;clear hb hbox hg;(try have:=NB277_278.out);(try have:=NB278_277.out);(try have:=NB277_279.out);(try have:=NB279_277.out);have hcz9_0:=cells5 BK277.out;(try have:=NB279_278.out);(try have:=NB278_279.out);have hcz11_0:=cells5 BK279.out)|((with_reducible refine gate_callee (f:=35) rfl ?_);refine goesL_ (some 9) rfl rfl Try.func35 (by kernel_rfl) rfl #[.agg #[I L a0_1,I L a0_2,I L a0_3]] rfl Z17 ?_;(with_reducible refine (laws_toVec.calls a0_1 a0_2 a0_3 t280 t281 t282 _ A2.out).mono ?_);rintro e w12 ⟨rfl,hb⟩;refine ⟨_,rfl,?_⟩;have n_:=an_ (blk_below (g:=gb277) (o:=.cells #[I L a0_0,I L a0_1,I L a0_2,I L a0_3,Y A0_4 l0_4.length c0_4] 26 (0,0)) (by exact pP_ BK277.out) hb)<|an_ (blk_below (g:=gb278) (o:=.cells #[I L 0,I L 0,I L 0,I L 0,Y none 0 0] 34 (0,0)) (by exact pP_ BK278.out) hb)<|an_ (blk_below (g:=gb279) (o:=.cells #[I L a0_0,I L 0,I L 0,I L 0,Y none 0 0] 34 (0,0)) (by exact pP_ BK279.out) hb)<|D (below_step (pB_ HB.out) hb);clear BK277 BK278 BK279 HB;obtain ⟨BK277,BK278,BK279,HB⟩:=n_;(try clear hb);have hcz13_0:=cells5 BK279.out;have hcz14_0:=cells5 BK277.out)|((with_reducible refine gate_callee (f:=36) rfl ?_);refine goesL_ (some 13) rfl rfl Try.func36 (by kernel_rfl) rfl #[Y A0_4 l0_4.length c0_4] rfl Z17 ?_;(with_reducible refine (laws_toKidS.calls k _ _ l0_4 t283 _ ?side1 ?side2 A3.out).mono ?_);(case side1=>exact Kd.C_below HR0_4.out (pB_ HB.out));(case side2=>exact HC0_4.out);rintro e w15 ⟨v284,rfl,ho0,hb⟩;refine ⟨_,rfl,?_⟩;have n_:=an_ (Kd.R_lower ho0 (below_size (pB_ HB.out)))<|an_ (blk_below (g:=gb277) (o:=.cells #[I L a0_0,I L a0_1,I L a0_2,I L a0_3,Y A0_4 l0_4.length c0_4] 26 (0,0)) (by exact pP_ BK277.out) hb)<|an_ (blk_below (g:=gb278) (o:=.cells #[I L 0,I L 0,I L 0,I L 0,Y none 0 0] 34 (0,0)) (by exact pP_ BK278.out) hb)<|an_ (blk_below (g:=gb279) (o:=.cells #[I L a0_0,I L t280,I L t281,I L t282,Y none 0 0] 34 (0,0)) (by exact pP_ BK279.out) hb)<|D (below_step (pB_ HB.out) hb);clear BK277 BK278 BK279 HB;obtain ⟨HO285,BK277,BK278,BK279,HB⟩:=n_;(try clear hb);(try clear ho0);obtain ⟨Ao16,co16,eo16⟩:=Kd.R_slice HO285.out;subst eo16;have hcz17_0:=cells5 BK279.out;have hcz18_0:=cells5 BK278.out))
 refine bodyPost_ret (results_cell_row rfl _ _ gb278 34 #[I L a0_0,I L t280,I L t281,I L t282,Y Ao16 t283.length co16] (0,0) _ rfl (by exact pP_ BK278.out) Try.underlying34 rfl (by kernel_rfl)) rfl ?_
 exact ⟨_,er_,by (with_reducible repeat (first|apply Kd.R_alloc|apply Kd.R_drewN|apply Kd.R_drew));exact Kd.R_mono (fr_ (fr_ (fr_ (fr_ (fr_ (Kd.R_far (p:=⟨gb279,4,none⟩) (Kd.R_types (Kd.R_types HO285.out BK279.out (by decide)) BK278.out (by decide)) (fun _ hk=>hk.1.2) (Y Ao16 t283.length co16)) 0 (I L a0_0)) 1 (I L t280)) 2 (I L t281)) 3 (I L t282)) 4 (Y Ao16 t283.length co16)) (fun _ hk=>trivial),pB_ HB.out⟩

/-! ### laws_toBranch: function 37 -/
def laws_toBranch.f (k : Nat) (a0_0 a0_1 a0_2 a0_3 a0_4 : Int) (l0_5 : List (S86)) : Option (Int × Int × Int × Int × Int × (List (S67))) := (laws_toFair.f k a0_1 a0_2 a0_3 a0_4 l0_5).bind fun bt289 => (some (a0_0, bt289.1, bt289.2.1, bt289.2.2.1, bt289.2.2.2.1, bt289.2.2.2.2))
set_option maxHeartbeats 8000000 in
set_option maxRecDepth 100000 in
theorem laws_toBranch.calls (k : Nat) (a0_0 a0_1 a0_2 a0_3 a0_4 : Int) (A0_5 : Option Addr) (c0_5 : Nat) (l0_5 : List (S86)) (r1 r2 r3 r4 r5 : Int) (r6 : List (S67)) (w : World) (hr0_5 : Kd.C k86 w A0_5 l0_5.length l0_5) (hc0_5 : l0_5.length ≤ c0_5) (h : laws_toBranch.f k a0_0 a0_1 a0_2 a0_3 a0_4 l0_5 = some (r1, r2, r3, r4, r5, r6)) :
  Calls Try.prog 37 #[.agg #[I L a0_0,I L a0_1,I L a0_2,I L a0_3,I L a0_4,Y A0_5 l0_5.length c0_5]] w fun e w'=>∃ v5_:Value,e=.returned (.agg #[I L r1,I L r2,I L r3,I L r4,I L r5,v5_])∧Kd.R k67 67 w' w.heap.size (fun _=>True) v5_ r6∧Below w.heap.size w w':=by
 have hu64 := Try.underlying64
 have hu50 := Try.underlying50
 have hu26 := Try.underlying26
 have hu34 := Try.underlying34
 have HR0_5 := D hr0_5
 have HC0_5 := D hc0_5
 clear hr0_5 hc0_5
 have HB := D (Below.refl w.heap.size w)
 have H : ((laws_toFair.f k a0_1 a0_2 a0_3 a0_4 l0_5).bind fun bt289 => (some (a0_0, bt289.1, bt289.2.1, bt289.2.2.1, bt289.2.2.2.1, bt289.2.2.2.2))) = some (r1, r2, r3, r4, r5, r6) := h
 clear h
 obtain ⟨⟨t289, t290, t291, t292, t293⟩, A20, H⟩ := bs_.mp H
 (try dsimp only at H)
 have A2 := D A20
 clear A20
 simp only [Option.some.injEq, Prod.mk.injEq] at H
 obtain ⟨rfl, rfl, rfl, rfl, rfl, rfl⟩ := H
 go_enter Try.func37, Try.ntmps37
 go_wp2_with (first|((with_reducible refine gate_dst (N:=1) rfl ?_);refine bx_ (N:=1) (cs:=#[I L a0_0,I L a0_1,I L a0_2,I L a0_3,I L a0_4,Y A0_5 l0_5.length c0_5]) (t:=64) ?_;intro gb286 hg w3 hbox hb;have n_:=an_ (below_step (pB_ HB.out) hb)<|an_ (hbox)<|an_ (bg_ hg (pB_ HB.out):w.heap.size≤gb286)<|D (bg_ hg (pB_ HB.out):w.heap.size≤gb286);clear HB;obtain ⟨HB,BK286,GW286,GE286⟩:=n_;clear hb hbox hg)|((with_reducible refine gate_dst (N:=2) rfl ?_);refine bx_ (N:=2) (cs:=#[I L 0,I L 0,I L 0,I L 0,I L 0,Y none 0 0]) (t:=50) ?_;intro gb287 hg w4 hbox hb;have n_:=an_ (blk_below (pk_ BK286.out) hb)<|an_ (below_step (pB_ HB.out) hb)<|an_ (hbox)<|an_ (bg_ hg (pB_ HB.out):w.heap.size≤gb287)<|an_ (bg_ hg (pB_ HB.out):w.heap.size≤gb287)<|an_ (nl_ hg (pk_ BK286.out):gb286≠gb287)<|D (by rw [hg];exact Nat.ne_of_gt (blk_lt (pk_ BK286.out)):gb287≠gb286);clear BK286 HB;obtain ⟨BK286,HB,BK287,GW287,GE287,NB286_287,NB287_286⟩:=n_;clear hb hbox hg)|((with_reducible refine gate_dst (N:=3) rfl ?_);refine bx_ (N:=3) (cs:=#[I L 0,I L 0,I L 0,I L 0,I L 0,Y none 0 0]) (t:=50) ?_;intro gb288 hg w5 hbox hb;have n_:=an_ (blk_below (pk_ BK286.out) hb)<|an_ (blk_below (pk_ BK287.out) hb)<|an_ (below_step (pB_ HB.out) hb)<|an_ (hbox)<|an_ (bg_ hg (pB_ HB.out):w.heap.size≤gb288)<|an_ (bg_ hg (pB_ HB.out):w.heap.size≤gb288)<|an_ (nl_ hg (pk_ BK286.out):gb286≠gb288)<|an_ (ng_ hg (pk_ BK286.out):gb288≠gb286)<|an_ (nl_ hg (pk_ BK287.out):gb287≠gb288)<|D (by rw [hg];exact Nat.ne_of_gt (blk_lt (pk_ BK287.out)):gb288≠gb287);clear BK286 BK287 HB;obtain ⟨BK286,BK287,HB,BK288,GW288,GE288,NB286_288,NB288_286,NB287_288,NB288_287⟩:=n_;clear hb hbox hg;(try have:=NB286_287.out);(try have:=NB287_286.out);(try have:=NB286_288.out);(try have:=NB288_286.out);have hcz8_0:=cells6 BK286.out;(try have:=NB288_287.out);(try have:=NB287_288.out);have hcz10_0:=cells6 BK288.out)|((with_reducible refine gate_callee (f:=17) rfl ?_);refine goesL_ (some 9) rfl rfl Try.func17 (by kernel_rfl) rfl #[.agg #[I L a0_1,I L a0_2,I L a0_3,I L a0_4,Y A0_5 l0_5.length c0_5]] rfl Z17 ?_;(with_reducible refine (laws_toFair.calls k a0_1 a0_2 a0_3 a0_4 _ _ l0_5 t289 t290 t291 t292 t293 _ ?side1 ?side2 A2.out).mono ?_);(case side1=>exact Kd.C_below HR0_5.out (pB_ HB.out));(case side2=>exact HC0_5.out);rintro e w11 ⟨v294,rfl,ho0,hb⟩;refine ⟨_,rfl,?_⟩;have n_:=an_ (Kd.R_lower ho0 (below_size (pB_ HB.out)))<|an_ (blk_below (g:=gb286) (o:=.cells #[I L a0_0,I L a0_1,I L a0_2,I L a0_3,I L a0_4,Y A0_5 l0_5.length c0_5] 64 (0,0)) (by exact pP_ BK286.out) hb)<|an_ (blk_below (g:=gb287) (o:=.cells #[I L 0,I L 0,I L 0,I L 0,I L 0,Y none 0 0] 50 (0,0)) (by exact pP_ BK287.out) hb)<|an_ (blk_below (g:=gb288) (o:=.cells #[I L a0_0,I L 0,I L 0,I L 0,I L 0,Y none 0 0] 50 (0,0)) (by exact pP_ BK288.out) hb)<|D (below_step (pB_ HB.out) hb);clear BK286 BK287 BK288 HB;obtain ⟨HO295,BK286,BK287,BK288,HB⟩:=n_;(try clear hb);(try clear ho0);have hcz12_0:=cells6 BK288.out;obtain ⟨Ao13,co13,eo13⟩:=Kd.R_slice HO295.out;subst eo13;have hcz14_0:=cells6 BK287.out))
 refine bodyPost_ret (results_cell_row rfl _ _ gb287 50 #[I L a0_0,I L t289,I L t290,I L t291,I L t292,Y Ao13 t293.length co13] (0,0) _ rfl (by exact pP_ BK287.out) Try.underlying50 rfl (by kernel_rfl)) rfl ?_
 exact ⟨_,er_,by (with_reducible repeat (first|apply Kd.R_alloc|apply Kd.R_drewN|apply Kd.R_drew));exact Kd.R_mono (fr_ (fr_ (fr_ (fr_ (fr_ (fr_ (Kd.R_far (p:=⟨gb288,5,none⟩) (Kd.R_far (p:=⟨gb288,4,none⟩) (Kd.R_far (p:=⟨gb288,3,none⟩) (Kd.R_far (p:=⟨gb288,2,none⟩) (Kd.R_far (p:=⟨gb288,1,none⟩) (Kd.R_types (Kd.R_types HO295.out BK288.out (by decide)) BK287.out (by decide)) (fun _ hk=>hk.1.2) (I L t289)) (fun _ hk=>hk.1.2) (I L t290)) (fun _ hk=>hk.1.2) (I L t291)) (fun _ hk=>hk.1.2) (I L t292)) (fun _ hk=>hk.1.2) (Y Ao13 t293.length co13)) 0 (I L a0_0)) 1 (I L t289)) 2 (I L t290)) 3 (I L t291)) 4 (I L t292)) 5 (Y Ao13 t293.length co13)) (fun _ hk=>trivial),pB_ HB.out⟩

/-! ### laws_toBranchS: function 18 -/
def laws_toBranchS.l0 : Nat → List (S64) → List (S50) → Int → Option ((List (S50)))
 | 0, _, _, _ => none
 | k + 1,x0,x3,x4=>if x4 < (x0.length:Int) then (if 0≤x4 then ((laws_toBranch.f k ((rd_T64 x0 x4).f0) ((rd_T64 x0 x4).f1.f0) ((rd_T64 x0 x4).f1.f1.f0) ((rd_T64 x0 x4).f1.f1.f1) ((rd_T64 x0 x4).f1.f1.f2) ((rd_T64 x0 x4).f1.f2)).bind fun bt300=>(if x4 < (x3.length:Int) then (laws_toBranchS.l0 k x0 (x3.set (x4:Int).toNat (⟨bt300.1,(⟨bt300.2.1,(⟨bt300.2.2.1,bt300.2.2.2.1,bt300.2.2.2.2.1⟩:S31),bt300.2.2.2.2.2⟩:S34)⟩:S50)) (wrap64 (x4 + 1))) else (none))) else (none)) else (some x3)
def laws_toBranchS.f (k : Nat) (l0 : List (S64)) : Option ((List (S50))) := if 0 ≤ (l0.length : Int) then (if ((l0.length : Int) : Int).toNat ≤ 4398046511104 then (laws_toBranchS.l0 k l0 (List.replicate ((l0.length : Int) : Int).toNat z50) 0) else (none)) else (none)
set_option maxHeartbeats 8000000 in
set_option maxRecDepth 100000 in
theorem laws_toBranchS.calls (k : Nat) (A0 : Option Addr) (c0 : Nat) (l0 : List (S64)) (r : List (S50)) (w : World) (hr0 : Kd.C k64 w A0 l0.length l0) (hc0 : l0.length ≤ c0) (h : laws_toBranchS.f k l0 = some r) :
  Calls Try.prog 18 #[Y A0 l0.length c0] w fun e w' => ∃ v0_ : Value, e = .returned (v0_) ∧ Kd.S k50 50 w' w.heap.size (fun _ => True) v0_ r ∧ Below w.heap.size w w' := by
 have hu64 := Try.underlying64
 have hu50 := Try.underlying50
 have HR0 := D hr0
 have HC0 := D hc0
 clear hr0 hc0
 have HB := D (Below.refl w.heap.size w)
 have H:(if 0≤(l0.length:Int) then (if ((l0.length:Int):Int).toNat≤4398046511104 then (laws_toBranchS.l0 k l0 (List.replicate ((l0.length:Int):Int).toNat z50) 0) else (none)) else (none))=some r:=h
 clear h
 by_cases c2 : 0 ≤ (l0.length : Int)
 ·rw [if_pos c2] at H
  have c2b0 := eq_true c2; have c2b1 : decide (0 ≤ (l0.length : Int)) = true := decide_eq_true c2; clear c2
  by_cases c3 : ((l0.length : Int) : Int).toNat ≤ 4398046511104
  ·rw [if_pos c3] at H
   have c3b0:=eq_true c3;have c3b1:decide (((l0.length:Int):Int).toNat≤4398046511104)=true:=decide_eq_true c3;clear c3;obtain ⟨y296,hy296⟩:∃ y_:List (S50),y_=(List.replicate ((l0.length:Int):Int).toNat z50):=⟨_,rfl⟩
   replace H:(laws_toBranchS.l0 k l0 y296 0)=some r:=by first|(rw [hy296];with_reducible exact H)|(have H2_:=(Option.bind_some _ _).symm.trans H;rw [hy296];with_reducible exact H2_)|(have H2_:=(Option.bind_some _ _).symm.trans H;with_reducible exact H2_)|with_reducible exact H|(rw [hy296];exact H)|exact H
   have Ny296 := D hy296; clear hy296; have H' := D H; clear H; go_enter Try.func18, Try.ntmps18
   go_wp2_with (first|((with_reducible refine gate_dst (N:=7) rfl ?_);refine Kd.S_make k50 _ 50 rfl (N:=7) rfl 35 _ _ rfl (l0.length:Int) rfl rfl Try.underlying35 (.agg #[(I L 0),(I L 0),(I L 0),(I L 0),(I L 0),(Y none 0 0)]) 64 info50 rfl (by decide) (by omega) z50 (ok:=fun _=>True) (okp:=fun _=>True) (k50_mkM _ _ _ z50 (Kd.R_nil _ _ _ _ _)) (fun _ hk=>hk) trivial (od_ Z48) (Nat.le_trans (Nat.mul_le_mul_right _ (od_ Z48:(l0.length:Int).toNat≤4398046511104)) (by omega)) (Below.refl _ _) (Nat.le_refl _) ?_;intro v297 w4 ho5 hb hg_ hnew_;clear hg_ hnew_;(first|rw [← Ny296.out] at ho5|(simp only [Int.reduceToNat] at ho5;rw [← Ny296.out] at ho5));have n_:=an_ (Kd.S_lower ho5 (below_size (pB_ HB.out)))<|D (below_step (pB_ HB.out) hb);clear HB;obtain ⟨HO298,HB⟩:=n_;clear hb ho5))
   go_loopg [4] k (fun kq v4 w'=>∃ (x3_1:List (S50)) (x4_1:Int),v4=I L x4_1∧Aside0 (laws_toBranchS.l0 kq l0 x3_1 x4_1=some r)∧Aside0 (kq≤k)∧Aside0 (Kd.S k50 50 w' w.heap.size (fun _=>True) v297 x3_1)∧Aside0 (Below w.heap.size w w'))
   case atStart => exact ⟨(y296), (0), Z49, H', ⟨Nat.le_refl _⟩, ⟨pS_ HO298.out⟩, ⟨pB_ HB.out⟩⟩
   case round =>
    clear H'
    (try clear c1);(try clear c2);(try clear c2b0);(try clear c2b1);(try clear p2);(try clear c3);(try clear c3b0);(try clear c3b1)
    obtain ⟨x3_1, x4_1, rfl, HA, HK1, HO_3, HB⟩ := hrel
    cases gk with
    | zero => exact absurd HA.out (by simp [laws_toBranchS.l0])
    | succ k1 =>
     have H := HA.out; clear HA; simp only [laws_toBranchS.l0] at H
     by_cases c6 : x4_1 < (l0.length : Int)
     ·rw [if_pos c6] at H
      have c6b0 : decide (x4_1 < (l0.length : Int)) = true := decide_eq_true c6; clear c6
      by_cases c7 : 0 ≤ x4_1
      ·rw [if_pos c7] at H
       have c7b0:decide (0≤x4_1)=true:=decide_eq_true c7;clear c7;obtain ⟨⟨t300,t301,t302,t303,t304,t305⟩,A80,H⟩:=bs_.mp H;(try dsimp only at H);have A8:=D A80;clear A80
       by_cases c9 : x4_1 < (x3_1.length : Int)
       ·rw [if_pos c9] at H
        have c9b0:decide (x4_1 < (x3_1.length:Int))=true:=decide_eq_true c9;clear c9;obtain ⟨y308,hy308⟩:∃ y_:List (S50),y_=(x3_1.set (x4_1:Int).toNat (⟨t300,(⟨t301,(⟨t302,t303,t304⟩:S31),t305⟩:S34)⟩:S50)):=⟨_,rfl⟩
        replace H:(laws_toBranchS.l0 k1 l0 y308 (wrap64 (x4_1 + 1)))=some r:=by first|(rw [hy308];with_reducible exact H)|(have H2_:=(Option.bind_some _ _).symm.trans H;rw [hy308];with_reducible exact H2_)|(have H2_:=(Option.bind_some _ _).symm.trans H;with_reducible exact H2_)|with_reducible exact H|(rw [hy308];exact H)|exact H
        have Ny308:=D hy308;clear hy308;have H':=D H;clear H;have p299:0≤(x4_1:Int):=od_ Z48;have q299:x4_1 < (l0.length:Int):=od_ Z48;obtain ⟨ad299,A299_5,c299_5,e299,hx299_0,hx299_1,hx299_2,hx299_3,hx299_4,hx299_5,hl299_5,hi299_5⟩:=at_T64 HR0.out x4_1 p299 q299;cases e299;replace hx299_0:=rc_ HB.out hx299_0;replace hx299_1:=rc_ HB.out hx299_1;replace hx299_2:=rc_ HB.out hx299_2;replace hx299_3:=rc_ HB.out hx299_3;replace hx299_4:=rc_ HB.out hx299_4;replace hx299_5:=rc_ HB.out hx299_5;have HR299_5:=D hi299_5;have HC299_5:=D hl299_5;clear hi299_5 hl299_5;replace p299:=eq_true p299;replace q299:=eq_true q299
        go_wp2_with (first|((with_reducible refine gate_callee (f:=37) rfl ?_);refine goesL_ (some 20) rfl rfl Try.func37 (by kernel_rfl) rfl #[.agg #[I L ((rd_T64 l0 x4_1).f0),I L ((rd_T64 l0 x4_1).f1.f0),I L ((rd_T64 l0 x4_1).f1.f1.f0),I L ((rd_T64 l0 x4_1).f1.f1.f1),I L ((rd_T64 l0 x4_1).f1.f1.f2),Y A299_5 ((rd_T64 l0 x4_1).f1.f2).length c299_5]] rfl Z17 ?_;(with_reducible refine (laws_toBranch.calls k1 ((rd_T64 l0 x4_1).f0) ((rd_T64 l0 x4_1).f1.f0) ((rd_T64 l0 x4_1).f1.f1.f0) ((rd_T64 l0 x4_1).f1.f1.f1) ((rd_T64 l0 x4_1).f1.f1.f2) _ _ ((rd_T64 l0 x4_1).f1.f2) t300 t301 t302 t303 t304 t305 _ ?side1 ?side2 A8.out).mono ?_);(case side1=>exact pC_ (Kd.C_below HR299_5.out HB.out));(case side2=>exact HC299_5.out);rintro e w11 ⟨v306,rfl,ho0,hb⟩;refine ⟨_,rfl,?_⟩;have n_:=an_ (Kd.S_elder' (pS_ HO_3.out) (Kd.R_base ho0) hb)<|an_ (Kd.R_lower ho0 (below_size (pB_ HB.out)))<|D (below_step (pB_ HB.out) hb);clear HO_3 HB;obtain ⟨HO_3,HO307,HB⟩:=n_;(try clear hb);(try clear ho0);have p10:0≤(x4_1:Int):=od_ Z48;have q10:(x4_1:Int) < ((x3_1.length:Int):Int):=od_ Z48;obtain ⟨go10,co10,eo10,gb10,gl10,cl10,HG10⟩:=Kd.S_form HO_3.out (by omega);(first|cases eo10|(injection eo10 with ea_ en_ ec_;(first|subst ea_|(injection ea_ with ea_;subst ea_));subst ec_;clear en_));have GB10:=D gb10;have GG10:=D HG10;clear gb10 gl10 HG10;obtain ⟨_,ce10,hcl10,hM10,hcc10,hfr10,_,_⟩:=Kd.S_elem HO_3.out z50 (x4_1:Int) p10 q10;obtain ⟨ve10_5,rfl,ge10_5⟩:=k50_openM hM10;have hx10_0:w11.cell? ⟨go10,(x4_1:Int).toNat * 6,none⟩=some (I L ((rd_T50 x3_1 x4_1).f0)):=hcc10 0 _ rfl;have hx10_1:w11.cell? ⟨go10,(x4_1:Int).toNat * 6 + 1,none⟩=some (I L ((rd_T50 x3_1 x4_1).f1.f0)):=hcc10 1 _ rfl;have hx10_2:w11.cell? ⟨go10,(x4_1:Int).toNat * 6 + 2,none⟩=some (I L ((rd_T50 x3_1 x4_1).f1.f1.f0)):=hcc10 2 _ rfl;have hx10_3:w11.cell? ⟨go10,(x4_1:Int).toNat * 6 + 3,none⟩=some (I L ((rd_T50 x3_1 x4_1).f1.f1.f1)):=hcc10 3 _ rfl;have hx10_4:w11.cell? ⟨go10,(x4_1:Int).toNat * 6 + 4,none⟩=some (I L ((rd_T50 x3_1 x4_1).f1.f1.f2)):=hcc10 4 _ rfl;have hx10_5:w11.cell? ⟨go10,(x4_1:Int).toNat * 6 + 5,none⟩=some (ve10_5):=hcc10 5 _ rfl;have hf10_0:w11.frozen? ⟨go10,(x4_1:Int).toNat * 6,none⟩=false:=hfr10 0;have hf10_1:w11.frozen? ⟨go10,(x4_1:Int).toNat * 6 + 1,none⟩=false:=hfr10 1;have hf10_2:w11.frozen? ⟨go10,(x4_1:Int).toNat * 6 + 2,none⟩=false:=hfr10 2;have hf10_3:w11.frozen? ⟨go10,(x4_1:Int).toNat * 6 + 3,none⟩=false:=hfr10 3;have hf10_4:w11.frozen? ⟨go10,(x4_1:Int).toNat * 6 + 4,none⟩=false:=hfr10 4;have hf10_5:w11.frozen? ⟨go10,(x4_1:Int).toNat * 6 + 5,none⟩=false:=hfr10 5;clear hcl10 hcc10 hfr10 hM10;replace p10:=eq_true p10;replace q10:=eq_true q10;have n_:=D (Kd.S_mono (ok':=(fun k_=>some k_≠(v306:Value).ownBlock)) HO_3.out (fun k_ hk=>hk.2));clear HO_3;have HO_3:=n_;clear n_;have HX12:=D (show Kd.S k50 50 w11 w.heap.size (fun k_=>((fun _=>True)) k_∧¬ ((fun k_=>some k_=(v306:Value).ownBlock)) k_) (Y (some ⟨go10,0,none⟩) x3_1.length co10) x3_1 from (pS_ (Kd.S_mono HO_3.out (fun k_ hk=>⟨trivial,fun e_=>hk e_⟩))));obtain ⟨oki12,ce12,hcl12,hM12,hcc12,hfr12,hoki12,hH12⟩:=Kd.S_elem HX12.out z50 (x4_1:Int) (od_ Z48) (by have h_:(x4_1:Int) < ((x3_1.length:Int):Int):=od_ Z48;first|exact h_|(have e_:=(Kd.S_reads' HO_3.out).1;omega)|simpa using h_);obtain ⟨ve12_5,rfl,ge12_5⟩:=k50_openM hM12;have HP12:=Kd.S_seg hH12 (od_ Z48) (by have h_:(x4_1:Int) < ((x3_1.length:Int):Int):=od_ Z48;first|exact h_|(have e_:=(Kd.S_reads' HO_3.out).1;omega)|simpa using h_) (seg:=[I L t300,I L t301,I L t302,I L t303,I L t304,v306]) (j:=0) (show 6≤6 from by decide) (x':=(⟨t300,(⟨t301,(⟨t302,t303,t304⟩:S31),t305⟩:S34)⟩:S50)) (k50_mkM _ _ _ (⟨t300,(⟨t301,(⟨t302,t303,t304⟩:S31),t305⟩:S34)⟩:S50) (Kd.R_mono (Kd.R_tight rfl (Kd.R_mono (ok':=fun k_=>((fun _=>True)) k_∧k_≠go10) (Kd.R_apart' (HO307.out) (Kd.S_typed HO_3.out) (by decide)) (fun k_ hk=>⟨trivial,fun e_=>(hk.2) (by rw [e_];rfl)⟩))) (fun _ h_=>Or.inr (h_)))) (fun _ hk=>hk) (fun k_ hk_=>((Kd.R_mono (ok':=fun k_=>((fun _=>True)) k_∧k_≠go10) (Kd.R_apart' (HO307.out) (Kd.S_typed HO_3.out) (by decide)) (fun k_ hk=>⟨trivial,fun e_=>(hk.2) (by rw [e_];rfl)⟩))).1 k_ hk_.symm);have hx12_0:=hcc12 0 _ rfl;(try simp only [show (k50).sz=6 from rfl,Nat.mul_one,Nat.add_zero] at hx12_0);have hf12_0:=hfr12 0;(try simp only [show (k50).sz=6 from rfl,Nat.mul_one,Nat.add_zero] at hf12_0);have hx12_1:=hcc12 1 _ rfl;(try simp only [show (k50).sz=6 from rfl,Nat.mul_one,Nat.add_zero] at hx12_1);have hf12_1:=hfr12 1;(try simp only [show (k50).sz=6 from rfl,Nat.mul_one,Nat.add_zero] at hf12_1);have hx12_2:=hcc12 2 _ rfl;(try simp only [show (k50).sz=6 from rfl,Nat.mul_one,Nat.add_zero] at hx12_2);have hf12_2:=hfr12 2;(try simp only [show (k50).sz=6 from rfl,Nat.mul_one,Nat.add_zero] at hf12_2);have hx12_3:=hcc12 3 _ rfl;(try simp only [show (k50).sz=6 from rfl,Nat.mul_one,Nat.add_zero] at hx12_3);have hf12_3:=hfr12 3;(try simp only [show (k50).sz=6 from rfl,Nat.mul_one,Nat.add_zero] at hf12_3);have hx12_4:=hcc12 4 _ rfl;(try simp only [show (k50).sz=6 from rfl,Nat.mul_one,Nat.add_zero] at hx12_4);have hf12_4:=hfr12 4;(try simp only [show (k50).sz=6 from rfl,Nat.mul_one,Nat.add_zero] at hf12_4);have hx12_5:=hcc12 5 _ rfl;(try simp only [show (k50).sz=6 from rfl,Nat.mul_one,Nat.add_zero] at hx12_5);have hf12_5:=hfr12 5;(try simp only [show (k50).sz=6 from rfl,Nat.mul_one,Nat.add_zero] at hf12_5);clear hcl12 hcc12 hfr12 hM12 hoki12 hH12)|((with_reducible refine gate_store (t:=50) (p:=21) rfl ?_);refine store_event (t:=50) (p:=21) (v:=?vo_w13) (w1:=((((((w11.setCell ⟨go10,(x4_1:Int).toNat * 6,none⟩ (I L t300)).setCell ⟨go10,(x4_1:Int).toNat * 6 + 1,none⟩ (I L t301)).setCell ⟨go10,(x4_1:Int).toNat * 6 + 2,none⟩ (I L t302)).setCell ⟨go10,(x4_1:Int).toNat * 6 + 3,none⟩ (I L t303)).setCell ⟨go10,(x4_1:Int).toNat * 6 + 4,none⟩ (I L t304)).setCell ⟨go10,(x4_1:Int).toNat * 6 + 5,none⟩ (v306))) ?hg ?ho ?hn ?hr ?_;(case ho=>rfl);(case hg=>rfl);(case hn=>rfl);(case hr=>first|(go_simp;done)|(go_simp;rfl)|(obtain ⟨_,_,e_⟩:=Kd.R_slice HO307.out;subst e_;first|(go_simp;done)|(go_simp;rfl)));intro w13 hw;have hg:w11.grownBy w13 (some go10):=Z50;have hp_:Kd.S k50 50 w13 w.heap.size (fun _=>True) (Y (some ⟨go10,0,none⟩) x3_1.length co10) y308:=(by rw [hw,Ny308.out];exact HP12.1);clear HP12;have n_:=an_ (hp_)<|D (by rw [hw];exact below_set (below_set (below_set (below_set (below_set (below_set (HB.out) GB10.out) GB10.out) GB10.out) GB10.out) GB10.out) GB10.out:Below w.heap.size w w13);clear HO_3 HB HO307;obtain ⟨HO_3,HB⟩:=n_;clear hg hw hp_))
        go_roundg k1
        case measure => have := HK1.out; omega
        case rel => exact ⟨(y308), (wrap64 (x4_1 + 1)), Z49, H', ⟨by have := HK1.out; omega⟩, ⟨pS_ HO_3.out⟩, ⟨pB_ HB.out⟩⟩
       ·rw [if_neg c9] at H
        exact absurd H (by simp)
      ·rw [if_neg c7] at H
       exact absurd H (by simp)
     ·rw [if_neg c6] at H
      have c6b0 : decide (x4_1 < (l0.length : Int)) = false := decide_eq_false c6; clear c6; obtain rfl := Option.some.inj H
      go_wp2
      go_ret;exact ⟨_,er_,by (with_reducible repeat (first|apply Kd.S_alloc|apply Kd.S_drewN|apply Kd.S_drew));exact HO_3.out,pB_ HB.out⟩
  ·rw [if_neg c3] at H
   exact absurd H (by simp)
 ·rw [if_neg c2] at H
  exact absurd H (by simp)

/-! ### laws_toTree: function 6 -/
def laws_toTree.f (k : Nat) (a0_0 a0_1 a0_2 a0_3 : Int) (l0_4 : List (S86)) (l0_5 : List (S64)) : Option (Int × Int × Int × Int × (List (S67)) × (List (S50))) := (laws_toFair.f k a0_0 a0_1 a0_2 a0_3 l0_4).bind fun bt312 => ((laws_toBranchS.f k l0_5).bind fun t319 => (some (bt312.1, bt312.2.1, bt312.2.2.1, bt312.2.2.2.1, bt312.2.2.2.2, t319)))
set_option maxHeartbeats 8000000 in
set_option maxRecDepth 100000 in
theorem laws_toTree.calls (k : Nat) (a0_0 a0_1 a0_2 a0_3 : Int) (A0_4 : Option Addr) (c0_4 : Nat) (l0_4 : List (S86)) (A0_5 : Option Addr) (c0_5 : Nat) (l0_5 : List (S64)) (r1 r2 r3 r4 : Int) (r5 : List (S67)) (r6 : List (S50)) (w : World) (hr0_4 : Kd.C k86 w A0_4 l0_4.length l0_4) (hc0_4 : l0_4.length ≤ c0_4) (hr0_5 : Kd.C k64 w A0_5 l0_5.length l0_5) (hc0_5 : l0_5.length ≤ c0_5) (h : laws_toTree.f k a0_0 a0_1 a0_2 a0_3 l0_4 l0_5 = some (r1, r2, r3, r4, r5, r6)) :
  Calls Try.prog 6 #[.agg #[I L a0_0,I L a0_1,I L a0_2,I L a0_3,Y A0_4 l0_4.length c0_4,Y A0_5 l0_5.length c0_5]] w fun e w'=>∃ v4_ v5_:Value,e=.returned (.agg #[I L r1,I L r2,I L r3,I L r4,v4_,v5_])∧Kd.R k67 67 w' w.heap.size (fun _=>True) v4_ r5∧Kd.S k50 50 w' w.heap.size (fun k_=>some k_≠(v4_:Value).ownBlock) v5_ r6∧Below w.heap.size w w':=by
 have hu29 := Try.underlying29
 have hu37 := Try.underlying37
 have hu26 := Try.underlying26
 have hu34 := Try.underlying34
 have HR0_4 := D hr0_4
 have HC0_4 := D hc0_4
 clear hr0_4 hc0_4
 have HR0_5 := D hr0_5
 have HC0_5 := D hc0_5
 clear hr0_5 hc0_5
 have HB := D (Below.refl w.heap.size w)
 have H:((laws_toFair.f k a0_0 a0_1 a0_2 a0_3 l0_4).bind fun bt312=>((laws_toBranchS.f k l0_5).bind fun t319=>(some (bt312.1,bt312.2.1,bt312.2.2.1,bt312.2.2.2.1,bt312.2.2.2.2,t319))))=some (r1,r2,r3,r4,r5,r6):=h
 clear h
 obtain ⟨⟨t312, t313, t314, t315, t316⟩, A20, H⟩ := bs_.mp H
 (try dsimp only at H)
 have A2 := D A20
 clear A20
 obtain ⟨t319, A30, H⟩ := bs_.mp H
 (try dsimp only at H)
 have A3 := D A30
 clear A30
 simp only [Option.some.injEq, Prod.mk.injEq] at H
 obtain ⟨rfl, rfl, rfl, rfl, rfl, rfl⟩ := H
 go_enter Try.func6, Try.ntmps6
 go_wp2_with (first|((with_reducible refine gate_dst (N:=1) rfl ?_);refine bx_ (N:=1) (cs:=#[I L a0_0,I L a0_1,I L a0_2,I L a0_3,Y A0_4 l0_4.length c0_4,Y A0_5 l0_5.length c0_5]) (t:=29) ?_;intro gb309 hg w4 hbox hb;have n_:=an_ (below_step (pB_ HB.out) hb)<|an_ (hbox)<|an_ (bg_ hg (pB_ HB.out):w.heap.size≤gb309)<|D (bg_ hg (pB_ HB.out):w.heap.size≤gb309);clear HB;obtain ⟨HB,BK309,GW309,GE309⟩:=n_;clear hb hbox hg)|((with_reducible refine gate_dst (N:=2) rfl ?_);refine bx_ (N:=2) (cs:=#[I L 0,I L 0,I L 0,I L 0,Y none 0 0,Y none 0 0]) (t:=37) ?_;intro gb310 hg w5 hbox hb;have n_:=an_ (blk_below (pk_ BK309.out) hb)<|an_ (below_step (pB_ HB.out) hb)<|an_ (hbox)<|an_ (bg_ hg (pB_ HB.out):w.heap.size≤gb310)<|an_ (bg_ hg (pB_ HB.out):w.heap.size≤gb310)<|an_ (nl_ hg (pk_ BK309.out):gb309≠gb310)<|D (by rw [hg];exact Nat.ne_of_gt (blk_lt (pk_ BK309.out)):gb310≠gb309);clear BK309 HB;obtain ⟨BK309,HB,BK310,GW310,GE310,NB309_310,NB310_309⟩:=n_;clear hb hbox hg)|((with_reducible refine gate_dst (N:=3) rfl ?_);refine bx_ (N:=3) (cs:=#[I L 0,I L 0,I L 0,I L 0,Y none 0 0,Y none 0 0]) (t:=37) ?_;intro gb311 hg w6 hbox hb;have n_:=an_ (blk_below (pk_ BK309.out) hb)<|an_ (blk_below (pk_ BK310.out) hb)<|an_ (below_step (pB_ HB.out) hb)<|an_ (hbox)<|an_ (bg_ hg (pB_ HB.out):w.heap.size≤gb311)<|an_ (bg_ hg (pB_ HB.out):w.heap.size≤gb311)<|an_ (nl_ hg (pk_ BK309.out):gb309≠gb311)<|an_ (ng_ hg (pk_ BK309.out):gb311≠gb309)<|an_ (nl_ hg (pk_ BK310.out):gb310≠gb311)<|D (by rw [hg];exact Nat.ne_of_gt (blk_lt (pk_ BK310.out)):gb311≠gb310);clear BK309 BK310 HB;obtain ⟨BK309,BK310,HB,BK311,GW311,GE311,NB309_311,NB311_309,NB310_311,NB311_310⟩:=n_;clear hb hbox hg;(try have:=NB309_310.out);(try have:=NB310_309.out);(try have:=NB309_311.out);(try have:=NB311_309.out);have hcz9_0:=cells6 BK309.out)|((with_reducible refine gate_callee (f:=17) rfl ?_);refine goesL_ (some 6) rfl rfl Try.func17 (by kernel_rfl) rfl #[.agg #[I L a0_0,I L a0_1,I L a0_2,I L a0_3,Y A0_4 l0_4.length c0_4]] rfl Z17 ?_;(with_reducible refine (laws_toFair.calls k a0_0 a0_1 a0_2 a0_3 _ _ l0_4 t312 t313 t314 t315 t316 _ ?side1 ?side2 A2.out).mono ?_);(case side1=>exact pC_ (Kd.C_below HR0_4.out HB.out));(case side2=>exact HC0_4.out);rintro e w10 ⟨v317,rfl,ho0,hb⟩;refine ⟨_,rfl,?_⟩;have n_:=an_ (Kd.R_lower ho0 (below_size (pB_ HB.out)))<|an_ (blk_below (pk_ BK309.out) hb)<|an_ (blk_below (pk_ BK310.out) hb)<|an_ (blk_below (pk_ BK311.out) hb)<|D (below_step (pB_ HB.out) hb);clear BK309 BK310 BK311 HB;obtain ⟨HO318,BK309,BK310,BK311,HB⟩:=n_;(try clear hb);(try clear ho0);(try have:=NB311_310.out);(try have:=NB310_311.out);have hcz12_0:=cells6 BK311.out;obtain ⟨Ao13,co13,eo13⟩:=Kd.R_slice HO318.out;subst eo13;have hcz14_0:=cells6 BK309.out)|((with_reducible refine gate_callee (f:=18) rfl ?_);refine goesL_ (some 10) rfl rfl Try.func18 (by kernel_rfl) rfl #[Y A0_5 l0_5.length c0_5] rfl Z17 ?_;(with_reducible refine (laws_toBranchS.calls k _ _ l0_5 t319 _ ?side1 ?side2 A3.out).mono ?_);(case side1=>exact Kd.C_below HR0_5.out (pB_ HB.out));(case side2=>exact HC0_5.out);rintro e w15 ⟨v320,rfl,ho0,hb⟩;refine ⟨_,rfl,?_⟩;have n_:=an_ (Kd.R_below (rM_ (Kd.R_types HO318.out BK311.out (by decide)) (fun _ h_=>h_.1)) hb)<|an_ (Kd.S_lower (Kd.S_new' ho0 (Kd.R_lt (rM_ (Kd.R_types HO318.out BK311.out (by decide)) (fun _ h_=>h_.1)))) (below_size (pB_ HB.out)))<|an_ (blk_below (g:=gb309) (o:=.cells #[I L a0_0,I L a0_1,I L a0_2,I L a0_3,Y A0_4 l0_4.length c0_4,Y A0_5 l0_5.length c0_5] 29 (0,0)) (by exact pP_ BK309.out) hb)<|an_ (blk_below (g:=gb310) (o:=.cells #[I L 0,I L 0,I L 0,I L 0,Y none 0 0,Y none 0 0] 37 (0,0)) (by exact pP_ BK310.out) hb)<|an_ (blk_below (g:=gb311) (o:=.cells #[I L t312,I L t313,I L t314,I L t315,Y Ao13 t316.length co13,Y none 0 0] 37 (0,0)) (by exact pP_ BK311.out) hb)<|D (below_step (pB_ HB.out) hb);clear HO318 BK309 BK310 BK311 HB;obtain ⟨HO318,HO321,BK309,BK310,BK311,HB⟩:=n_;(try clear hb);(try clear ho0);obtain ⟨Ao16,co16,eo16⟩:=Kd.S_slice HO321.out;subst eo16;have hcz17_0:=cells6 BK311.out;have hcz18_0:=cells6 BK310.out))
 refine bodyPost_ret (results_cell_row rfl _ _ gb310 37 #[I L t312,I L t313,I L t314,I L t315,Y Ao13 t316.length co13,Y Ao16 t319.length co16] (0,0) _ rfl (by exact pP_ BK310.out) Try.underlying37 rfl (by kernel_rfl)) rfl ?_
 exact ⟨_,_,er_,by (with_reducible repeat (first|apply Kd.R_alloc|apply Kd.R_drewN|apply Kd.R_drew));exact Kd.R_mono (fr_ (fr_ (fr_ (fr_ (fr_ (fr_ (Kd.R_far (p:=⟨gb311,5,none⟩) (Kd.R_types (Kd.R_types HO318.out BK311.out (by decide)) BK310.out (by decide)) (fun _ hk=>hk.1.2) (Y Ao16 t319.length co16)) 0 (I L t312)) 1 (I L t313)) 2 (I L t314)) 3 (I L t315)) 4 (Y Ao13 t316.length co13)) 5 (Y Ao16 t319.length co16)) (fun _ hk=>trivial),by (with_reducible repeat (first|apply Kd.S_alloc|apply Kd.S_drewN|apply Kd.S_drew));exact Kd.S_mono (Kd.S_far (p:=⟨gb310,5,none⟩) (Kd.S_far (p:=⟨gb310,4,none⟩) (Kd.S_far (p:=⟨gb310,3,none⟩) (Kd.S_far (p:=⟨gb310,2,none⟩) (Kd.S_far (p:=⟨gb310,1,none⟩) (Kd.S_far (p:=⟨gb310,0,none⟩) (Kd.S_far (p:=⟨gb311,5,none⟩) (Kd.S_types (Kd.S_types HO321.out BK311.out (by decide)) BK310.out (by decide)) (fun _ hk=>hk.1.2) (Y Ao16 t319.length co16)) (fun _ hk=>hk.2) (I L t312)) (fun _ hk=>hk.2) (I L t313)) (fun _ hk=>hk.2) (I L t314)) (fun _ hk=>hk.2) (I L t315)) (fun _ hk=>hk.2) (Y Ao13 t316.length co13)) (fun _ hk=>hk.2) (Y Ao16 t319.length co16)) (fun _ hk=>hk.1.1.2),pB_ HB.out⟩

/-! ### impl_VecTop: function 58 -/
def impl_VecTop.f (a0_0 a0_1 a0_2 : Int) : Option (Int) := some (mx (mx a0_0 a0_1) a0_2)
set_option maxHeartbeats 8000000 in
set_option maxRecDepth 100000 in
theorem impl_VecTop.calls (a0_0 a0_1 a0_2 r : Int) (w : World) (h : impl_VecTop.f a0_0 a0_1 a0_2 = some r) :
  Calls Try.prog 58 #[.agg #[I L a0_0, I L a0_1, I L a0_2]] w fun e w' => e = .returned (I L r) ∧ Below w.heap.size w w' := by
 have hu31 := Try.underlying31
 have HB := D (Below.refl w.heap.size w)
 have H : (some (mx (mx a0_0 a0_1) a0_2)) = some r := h
 clear h
 obtain ⟨ji2, hji2⟩ : ∃ j_ : Int, (mx a0_0 a0_1) = j_ := ⟨_, rfl⟩
 replace H : (some (mx (ji2) a0_2)) = some r := by first | (rw [hji2] at H; exact H) | (simp only [hji2] at H ⊢; exact H)
 have hji2_ : (if a0_0 < a0_1 then a0_1 else a0_0) = ji2 := hji2
 obtain ⟨ji3, hji3⟩ : ∃ j_ : Int, (mx (ji2) a0_2) = j_ := ⟨_, rfl⟩
 replace H : (some ji3) = some r := by first | (rw [hji3] at H; exact H) | (simp only [hji3] at H ⊢; exact H)
 have hji3_ : (if (ji2) < a0_2 then a0_2 else (ji2)) = ji3 := hji3
 obtain rfl := Option.some.inj H
 go_enter Try.func58, Try.ntmps58
 go_wp2_with (first|((with_reducible refine gate_dst (N:=1) rfl ?_);refine bx_ (N:=1) (cs:=#[I L a0_0,I L a0_1,I L a0_2]) (t:=31) ?_;intro gb322 hg w4 hbox hb;have n_:=an_ (below_step (pB_ HB.out) hb)<|an_ (hbox)<|an_ (bg_ hg (pB_ HB.out):w.heap.size≤gb322)<|D (bg_ hg (pB_ HB.out):w.heap.size≤gb322);clear HB;obtain ⟨HB,BK322,GW322,GE322⟩:=n_;clear hb hbox hg;have hcz5_0:=cells3 BK322.out))
 go_ret
 exact ⟨by first|rfl|(simp [errW_none,errW_some] <;> rfl)|(simp only [← hji2,← hji3];first|rfl|(simp [errW_none,errW_some] <;> rfl))|(simp [*,errW_none,errW_some] <;> rfl),pB_ HB.out⟩

/-! ### impl_within: function 60 -/
def impl_within.f (a0 a1 a2 : Int) : Option (Bool) := if a0 ≥ a1 then (some (decide (a0 ≤ a2))) else (some false)
set_option maxHeartbeats 8000000 in
set_option maxRecDepth 100000 in
theorem impl_within.calls (a0 a1 a2 : Int) (r : Bool) (w : World) (h : impl_within.f a0 a1 a2 = some r) :
  Calls Try.prog 60 #[I L a0, I L a1, I L a2] w fun e w' => e = .returned (.bool r) ∧ Drawn0 w w' := by
 have H : (if a0 ≥ a1 then (some (decide (a0 ≤ a2))) else (some false)) = some r := h
 clear h
 by_cases c4 : a0 ≥ a1
 ·rw [if_pos c4] at H
  have c4b0 : decide (a1 ≤ a0) = true := decide_eq_true c4; clear c4; obtain rfl := Option.some.inj H; go_enter Try.func60, Try.ntmps60
  go_wp2
  go_ret; exact ⟨by first | rfl | (simp; done) | (simp [*]; done), by repeat (first | exact Drawn0.refl _ | apply Drawn0.step)⟩
 ·rw [if_neg c4] at H
  have c4b0 : decide (a1 ≤ a0) = false := decide_eq_false c4; clear c4; obtain rfl := Option.some.inj H; go_enter Try.func60, Try.ntmps60
  go_wp2
  go_ret; exact ⟨by first | rfl | (simp; done) | (simp [*]; done), by repeat (first | exact Drawn0.refl _ | apply Drawn0.step)⟩

/-! ### impl_Vec_isFrom: function 70 -/
def impl_Vec_isFrom.f (a0_0 a0_1 a0_2 a1 a2 : Int) : Option (Bool) := (impl_within.f a0_0 a1 a2).bind fun t324 => (if t324 = true then ((impl_within.f a0_1 a1 a2).bind fun t325 => (if t325 = true then ((impl_within.f a0_2 a1 a2).bind fun t326 => (some t326)) else (some false))) else (some false))
set_option maxHeartbeats 8000000 in
set_option maxRecDepth 100000 in
theorem impl_Vec_isFrom.calls (a0_0 a0_1 a0_2 a1 a2 : Int) (r : Bool) (w : World) (h : impl_Vec_isFrom.f a0_0 a0_1 a0_2 a1 a2 = some r) :
  Calls Try.prog 70 #[.agg #[I L a0_0, I L a0_1, I L a0_2], I L a1, I L a2] w fun e w' => e = .returned (.bool r) ∧ Below w.heap.size w w' := by
 have hu31 := Try.underlying31
 have HB := D (Below.refl w.heap.size w)
 have H:((impl_within.f a0_0 a1 a2).bind fun t324=>(if t324=true then ((impl_within.f a0_1 a1 a2).bind fun t325=>(if t325=true then ((impl_within.f a0_2 a1 a2).bind fun t326=>(some t326)) else (some false))) else (some false)))=some r:=h
 clear h
 obtain ⟨t324, A40, H⟩ := bs_.mp H
 (try dsimp only at H)
 have A4 := D A40
 clear A40
 by_cases c5 : t324 = true
 ·subst c5
  rw [if_pos rfl] at H; obtain ⟨t325, A60, H⟩ := bs_.mp H; (try dsimp only at H); have A6 := D A60; clear A60
  by_cases c7 : t325 = true
  ·subst c7
   rw [if_pos rfl] at H;obtain ⟨t326,A80,H⟩:=bs_.mp H;(try dsimp only at H);have A8:=D A80;clear A80;obtain rfl:=Option.some.inj H;go_enter Try.func70,Try.ntmps70
   go_wp2_with (first|((with_reducible refine gate_dst (N:=3) rfl ?_);refine bx_ (N:=3) (cs:=#[I L a0_0,I L a0_1,I L a0_2]) (t:=31) ?_;intro gb323 hg w9 hbox hb;have n_:=an_ (below_step (pB_ HB.out) hb)<|an_ (hbox)<|an_ (bg_ hg (pB_ HB.out):w.heap.size≤gb323)<|D (bg_ hg (pB_ HB.out):w.heap.size≤gb323);clear HB;obtain ⟨HB,BK323,GW323,GE323⟩:=n_;clear hb hbox hg;have hcz10_0:=cells3 BK323.out)|((with_reducible refine gate_callee (f:=60) rfl ?_);refine goesL_ (some 11) rfl rfl Try.func60 (by kernel_rfl) rfl #[I L a0_0,I L a1,I L a2] rfl Z17 ?_;(with_reducible refine (impl_within.calls a0_0 a1 a2 true _ A4.out).mono ?_);rintro e w' ⟨rfl,⟨nd,rfl⟩⟩;refine ⟨_,rfl,?_⟩)|(go_at_call 60;(with_reducible refine (impl_within.calls a0_1 a1 a2 true _ A6.out).mono ?_);rintro e w' ⟨rfl,⟨nd,rfl⟩⟩)|(go_at_call 60;(with_reducible refine (impl_within.calls a0_2 a1 a2 t326 _ A8.out).mono ?_);rintro e w' ⟨rfl,⟨nd,rfl⟩⟩))
   go_ret; exact ⟨er_, pB_ HB.out⟩
  ·replace c7 := Bool.eq_false_iff.mpr c7
   subst c7; rw [if_neg (show ¬ (false = true) by decide)] at H; obtain rfl := Option.some.inj H; go_enter Try.func70, Try.ntmps70
   go_wp2_with (first|((with_reducible refine gate_dst (N:=3) rfl ?_);refine bx_ (N:=3) (cs:=#[I L a0_0,I L a0_1,I L a0_2]) (t:=31) ?_;intro gb323 hg w11 hbox hb;have n_:=an_ (below_step (pB_ HB.out) hb)<|an_ (hbox)<|an_ (bg_ hg (pB_ HB.out):w.heap.size≤gb323)<|D (bg_ hg (pB_ HB.out):w.heap.size≤gb323);clear HB;obtain ⟨HB,BK323,GW323,GE323⟩:=n_;clear hb hbox hg;have hcz12_0:=cells3 BK323.out)|((with_reducible refine gate_callee (f:=60) rfl ?_);refine goesL_ (some 11) rfl rfl Try.func60 (by kernel_rfl) rfl #[I L a0_0,I L a1,I L a2] rfl Z17 ?_;(with_reducible refine (impl_within.calls a0_0 a1 a2 true _ A4.out).mono ?_);rintro e w' ⟨rfl,⟨nd,rfl⟩⟩;refine ⟨_,rfl,?_⟩)|(go_at_call 60;(with_reducible refine (impl_within.calls a0_1 a1 a2 false _ A6.out).mono ?_);rintro e w' ⟨rfl,⟨nd,rfl⟩⟩))
   go_ret; exact ⟨er_, pB_ HB.out⟩
 ·replace c5 := Bool.eq_false_iff.mpr c5
  subst c5; rw [if_neg (show ¬ (false = true) by decide)] at H; obtain rfl := Option.some.inj H; go_enter Try.func70, Try.ntmps70
  go_wp2_with (first|((with_reducible refine gate_dst (N:=3) rfl ?_);refine bx_ (N:=3) (cs:=#[I L a0_0,I L a0_1,I L a0_2]) (t:=31) ?_;intro gb323 hg w13 hbox hb;have n_:=an_ (below_step (pB_ HB.out) hb)<|an_ (hbox)<|an_ (bg_ hg (pB_ HB.out):w.heap.size≤gb323)<|D (bg_ hg (pB_ HB.out):w.heap.size≤gb323);clear HB;obtain ⟨HB,BK323,GW323,GE323⟩:=n_;clear hb hbox hg;have hcz14_0:=cells3 BK323.out)|((with_reducible refine gate_callee (f:=60) rfl ?_);refine goesL_ (some 11) rfl rfl Try.func60 (by kernel_rfl) rfl #[I L a0_0,I L a1,I L a2] rfl Z17 ?_;(with_reducible refine (impl_within.calls a0_0 a1 a2 false _ A4.out).mono ?_);rintro e w' ⟨rfl,⟨nd,rfl⟩⟩;refine ⟨_,rfl,?_⟩))
  go_ret; exact ⟨er_, pB_ HB.out⟩

/-! ### impl_TagOk: function 68 -/
def impl_TagOk.f (a0_0 a0_1 a0_2 : Int) : Option (Bool) := (impl_Vec_isFrom.f a0_0 a0_1 a0_2 0 1000000000000).bind fun t328 => (some t328)
set_option maxHeartbeats 8000000 in
set_option maxRecDepth 100000 in
theorem impl_TagOk.calls (a0_0 a0_1 a0_2 : Int) (r : Bool) (w : World) (h : impl_TagOk.f a0_0 a0_1 a0_2 = some r) :
  Calls Try.prog 68 #[.agg #[I L a0_0, I L a0_1, I L a0_2]] w fun e w' => e = .returned (.bool r) ∧ Below w.heap.size w w' := by
 have hu31 := Try.underlying31
 have HB := D (Below.refl w.heap.size w)
 have H : ((impl_Vec_isFrom.f a0_0 a0_1 a0_2 0 1000000000000).bind fun t328 => (some t328)) = some r := h
 clear h
 obtain ⟨t328, A20, H⟩ := bs_.mp H
 (try dsimp only at H)
 have A2 := D A20
 clear A20
 obtain rfl := Option.some.inj H
 go_enter Try.func68, Try.ntmps68
 go_wp2_with (first|((with_reducible refine gate_dst (N:=1) rfl ?_);refine bx_ (N:=1) (cs:=#[I L a0_0,I L a0_1,I L a0_2]) (t:=31) ?_;intro gb327 hg w3 hbox hb;have n_:=an_ (below_step (pB_ HB.out) hb)<|an_ (hbox)<|an_ (bg_ hg (pB_ HB.out):w.heap.size≤gb327)<|D (bg_ hg (pB_ HB.out):w.heap.size≤gb327);clear HB;obtain ⟨HB,BK327,GW327,GE327⟩:=n_;clear hb hbox hg;have hcz4_0:=cells3 BK327.out)|((with_reducible refine gate_callee (f:=70) rfl ?_);refine goesL_ (some 4) rfl rfl Try.func70 (by kernel_rfl) rfl #[.agg #[I L a0_0,I L a0_1,I L a0_2],I L 0,I L 1000000000000] rfl Z17 ?_;(with_reducible refine (impl_Vec_isFrom.calls a0_0 a0_1 a0_2 0 1000000000000 t328 _ A2.out).mono ?_);rintro e w5 ⟨rfl,hb⟩;refine ⟨_,rfl,?_⟩;have n_:=an_ (blk_below (pk_ BK327.out) hb)<|D (below_step (pB_ HB.out) hb);clear BK327 HB;obtain ⟨BK327,HB⟩:=n_;(try clear hb)))
 go_ret
 exact ⟨er_, pB_ HB.out⟩

/-! ### impl_isDelta: function 69 -/
def impl_isDelta.f (a0 : Int) : Option (Bool) := (impl_within.f a0 0 10000000).bind fun t329 => (some t329)
set_option maxHeartbeats 8000000 in
set_option maxRecDepth 100000 in
theorem impl_isDelta.calls (a0 : Int) (r : Bool) (w : World) (h : impl_isDelta.f a0 = some r) :
  Calls Try.prog 69 #[I L a0] w fun e w' => e = .returned (.bool r) ∧ Drawn0 w w' := by
 have H : ((impl_within.f a0 0 10000000).bind fun t329 => (some t329)) = some r := h
 clear h
 obtain ⟨t329, A20, H⟩ := bs_.mp H
 (try dsimp only at H)
 have A2 := D A20
 clear A20
 obtain rfl := Option.some.inj H
 go_enter Try.func69, Try.ntmps69
 go_wp2_with (first|((with_reducible refine gate_callee (f:=60) rfl ?_);refine goesL_ (some 4) rfl rfl Try.func60 (by kernel_rfl) rfl #[I L a0,I L 0,I L 10000000] rfl Z17 ?_;(with_reducible refine (impl_within.calls a0 0 10000000 t329 _ A2.out).mono ?_);rintro e w' ⟨rfl,⟨nd,rfl⟩⟩;refine ⟨_,rfl,?_⟩))
 go_ret
 exact ⟨by first | rfl | (simp; done) | (simp [*]; done), by repeat (first | exact Drawn0.refl _ | apply Drawn0.step)⟩

end Go.Proofs.Ytjfknflhajeglaa.PFnExactTreeFlow
