-- by a program of this session's, over the kit's words
import Derived.Test.YtolphjnajopknacPZFnExactTreeWake
import Derived.Test.YtolphjnajopknacPFnExactTreeWakex0
import Derived.Test.YtolphjnajopknacPFnExactTreeWakex4
import Derived.Test.YtolphjnajopknacPFnExactTreeWakex5
import Derived.Test.YtolphjnajopknacPFnExactTreeWakex6
namespace Go.Proofs.Ytolphjnajopknac.PFnExactTreeWake
open Go.RowKit Go.Proofs.YtolphjnajopknacW.PrintWords Go.Proofs.YtolphjnajopknacW.PrintLast Go.Proofs.YtolphjnajopknacW.PrintMore Go.Proofs.YtolphjnajopknacV Go.Proofs.Ytolphjnajopknac.ZFnExactTreeWake
open Go.Value renaming int → I, slice → Y
open Go.IntKind renaming i64 → L
open Aside0 renaming mk → D
open Option renaming bind_eq_some_iff → bs_
attribute [local go_sem] max2_int min2_int max_two min_two max_three min_three max_four min_four   -- for this text's walks alone
set_option linter.unusedVariables false
set_option linter.unusedSimpArgs false

/-! ### spec_TreeWake: function 5 -/
def spec_TreeWake.f (k : Nat) (a0_0 a0_1 a0_2 a0_3 : Int) (l0_4 : List (S52)) (l0_5 : List (S50)) (a1 a2 : Int) : Option (Int × Int × Int × Int × (List (S52)) × (List (S50)) × Int) := (spec_TreeOk.f k a0_0 a0_1 a0_2 a0_3 l0_4 l0_5).bind fun t223 => (if t223 = true then ((spec_l20At.f k a0_0 a0_1 a0_2 a0_3 l0_4 l0_5 a1).bind fun t224 => (if t224 < 0 then (some (0, 0, 0, 0, ([] : List (S52)), ([] : List (S50)), 4)) else (if 0 ≤ t224 then (if t224 < (l0_5.length : Int) then ((spec_FairWake.f k ((rd_T50 l0_5 t224).f1.f0) ((rd_T50 l0_5 t224).f1.f1.f0) ((rd_T50 l0_5 t224).f1.f1.f1) ((rd_T50 l0_5 t224).f1.f1.f2) ((rd_T50 l0_5 t224).f1.f2) a2).bind fun bt226 => (if bt226.2.2.2.2.2 = 0 then (if t224 < (l0_4.length : Int) then (if ((rd_T52 l0_4 t224).f2 = true) then ((spec_l20With.f k a0_0 a0_1 a0_2 a0_3 l0_4 l0_5 a0_0 a0_1 a0_2 a0_3 l0_4 t224 bt226.1 bt226.2.1 bt226.2.2.1 bt226.2.2.2.1 bt226.2.2.2.2.1).bind fun bt237 => (some (bt237.1, bt237.2.1, bt237.2.2.1, bt237.2.2.2.1, bt237.2.2.2.2.1, bt237.2.2.2.2.2, 0))) else ((spec_FairWake.f k a0_0 a0_1 a0_2 a0_3 l0_4 a1).bind fun bt247 => ((spec_l20With.f k a0_0 a0_1 a0_2 a0_3 l0_4 l0_5 bt247.1 bt247.2.1 bt247.2.2.1 bt247.2.2.2.1 bt247.2.2.2.2.1 t224 bt226.1 bt226.2.1 bt226.2.2.1 bt226.2.2.2.1 bt226.2.2.2.2.1).bind fun bt255 => (some (bt255.1, bt255.2.1, bt255.2.2.1, bt255.2.2.2.1, bt255.2.2.2.2.1, bt255.2.2.2.2.2, 0))))) else (none)) else (some (0, 0, 0, 0, ([] : List (S52)), ([] : List (S50)), bt226.2.2.2.2.2)))) else (none)) else (none)))) else (some (0, 0, 0, 0, ([] : List (S52)), ([] : List (S50)), 1)))
set_option maxHeartbeats 8000000 in
set_option maxRecDepth 100000 in
theorem spec_TreeWake.calls (k : Nat) (a0_0 a0_1 a0_2 a0_3 : Int) (A0_4 : Option Addr) (c0_4 : Nat) (l0_4 : List (S52)) (A0_5 : Option Addr) (c0_5 : Nat) (l0_5 : List (S50)) (a1 a2 r1 r2 r3 r4 : Int) (r5 : List (S52)) (r6 : List (S50)) (r7 : Int) (w : World) (hr0_4 : Kd.C k52 w A0_4 l0_4.length l0_4) (hc0_4 : l0_4.length ≤ c0_4) (hr0_5 : Kd.C k50 w A0_5 l0_5.length l0_5) (hc0_5 : l0_5.length ≤ c0_5) (h : spec_TreeWake.f k a0_0 a0_1 a0_2 a0_3 l0_4 l0_5 a1 a2 = some (r1, r2, r3, r4, r5, r6, r7)) :
  Calls Try.prog 5 #[.agg #[I L a0_0,I L a0_1,I L a0_2,I L a0_3,Y A0_4 l0_4.length c0_4,Y A0_5 l0_5.length c0_5],I L a1,I L a2] w fun e w'=>∃ v4_ v5_:Value,e=.returned (.tuple #[.agg #[I L r1,I L r2,I L r3,I L r4,v4_,v5_],I L r7])∧Kd.R k52 52 w' w.heap.size (fun _=>True) v4_ r5∧Kd.S k50 50 w' w.heap.size (fun k_=>some k_≠(v4_:Value).ownBlock) v5_ r6∧Below w.heap.size w w':=by
 have hu37 := Try.underlying37
 have hu34 := Try.underlying34
 have HR0_4 := D hr0_4
 have HC0_4 := D hc0_4
 clear hr0_4 hc0_4
 have HR0_5 := D hr0_5
 have HC0_5 := D hc0_5
 clear hr0_5 hc0_5
 have HB := D (Below.refl w.heap.size w)
 have H:((spec_TreeOk.f k a0_0 a0_1 a0_2 a0_3 l0_4 l0_5).bind fun Oh=>(if Oh=true then ((spec_l20At.f k a0_0 a0_1 a0_2 a0_3 l0_4 l0_5 a1).bind fun Oa=>(if Oa < 0 then (some (0,0,0,0,([]:List (S52)),([]:List (S50)),4)) else (if 0≤Oa then (if Oa < (l0_5.length:Int) then ((spec_FairWake.f k ((rd_T50 l0_5 Oa).f1.f0) ((rd_T50 l0_5 Oa).f1.f1.f0) ((rd_T50 l0_5 Oa).f1.f1.f1) ((rd_T50 l0_5 Oa).f1.f1.f2) ((rd_T50 l0_5 Oa).f1.f2) a2).bind fun bt226=>(if bt226.2.2.2.2.2=0 then (if Oa < (l0_4.length:Int) then (if ((rd_T52 l0_4 Oa).f2=true) then ((spec_l20With.f k a0_0 a0_1 a0_2 a0_3 l0_4 l0_5 a0_0 a0_1 a0_2 a0_3 l0_4 Oa bt226.1 bt226.2.1 bt226.2.2.1 bt226.2.2.2.1 bt226.2.2.2.2.1).bind fun bt237=>(some (bt237.1,bt237.2.1,bt237.2.2.1,bt237.2.2.2.1,bt237.2.2.2.2.1,bt237.2.2.2.2.2,0))) else ((spec_FairWake.f k a0_0 a0_1 a0_2 a0_3 l0_4 a1).bind fun bt247=>((spec_l20With.f k a0_0 a0_1 a0_2 a0_3 l0_4 l0_5 bt247.1 bt247.2.1 bt247.2.2.1 bt247.2.2.2.1 bt247.2.2.2.2.1 Oa bt226.1 bt226.2.1 bt226.2.2.1 bt226.2.2.2.1 bt226.2.2.2.2.1).bind fun bt255=>(some (bt255.1,bt255.2.1,bt255.2.2.1,bt255.2.2.2.1,bt255.2.2.2.2.1,bt255.2.2.2.2.2,0))))) else (none)) else (some (0,0,0,0,([]:List (S52)),([]:List (S50)),bt226.2.2.2.2.2)))) else (none)) else (none)))) else (some (0,0,0,0,([]:List (S52)),([]:List (S50)),1))))=some (r1,r2,r3,r4,r5,r6,r7):=h
 clear h
 obtain ⟨Oh, A40, H⟩ := bs_.mp H
 (try dsimp only at H)
 have A4 := D A40
 clear A40
 have HU5 := D H
 clear H
 go_enter Try.func5, Try.ntmps5
 go_upto_if 14 with (first|((with_reducible refine gate_dst (N:=3) rfl ?_);refine bx_ (N:=3) (cs:=#[I L a0_0,I L a0_1,I L a0_2,I L a0_3,Y A0_4 l0_4.length c0_4,Y A0_5 l0_5.length c0_5]) (t:=37) ?_;intro Mb hg w6 hbox hb;have n_:=an_ (below_step (pB_ HB.out) hb)<|an_ (hbox)<|an_ (bg_ hg (pB_ HB.out):w.heap.size≤Mb)<|D (bg_ hg (pB_ HB.out):w.heap.size≤Mb);clear HB;obtain ⟨HB,Ja,Jm,Km⟩:=n_;clear hb hbox hg)|((with_reducible refine gate_dst (N:=6) rfl ?_);refine bx_ (N:=6) (cs:=#[I L 0,I L 0,I L 0,I L 0,Y none 0 0,Y none 0 0]) (t:=37) ?_;intro Jb hg w7 hbox hb;have n_:=an_ (blk_below (pk_ Ja.out) hb)<|an_ (below_step (pB_ HB.out) hb)<|an_ (hbox)<|an_ (bg_ hg (pB_ HB.out):w.heap.size≤Jb)<|an_ (bg_ hg (pB_ HB.out):w.heap.size≤Jb)<|an_ ((by rw [hg];exact Nat.ne_of_lt (blk_lt (pk_ Ja.out)):Mb≠Jb))<|D (by rw [hg];exact Nat.ne_of_gt (blk_lt (pk_ Ja.out)):Jb≠Mb);clear Ja HB;obtain ⟨Ja,HB,Ka,Mm,Om,Ue,Xe⟩:=n_;clear hb hbox hg;(try have hnb8:=Ue.out);(try have hnc8:=Xe.out);obtain ⟨Um,Xm,Jn,Kn,Mn,On,Un,Xn,Jo,Ko,Mo,Oo⟩:=cells6 Ja.out)|((with_reducible refine gate_callee (f:=13) rfl ?_);refine goesL_ (some 13) rfl rfl Try.func13 (by kernel_rfl) rfl #[.agg #[I L a0_0,I L a0_1,I L a0_2,I L a0_3,Y A0_4 l0_4.length c0_4,Y A0_5 l0_5.length c0_5]] rfl Z13 ?_;(with_reducible refine (spec_TreeOk.calls k a0_0 a0_1 a0_2 a0_3 _ _ l0_4 _ _ l0_5 Oh _ ?side1 ?side2 ?side3 ?side4 A4.out).mono ?_);(case side1=>exact pC_ (Kd.C_below HR0_4.out HB.out));(case side2=>exact HC0_4.out);(case side3=>exact pC_ (Kd.C_below HR0_5.out HB.out));(case side4=>exact HC0_5.out);rintro e w10 ⟨rfl,hb⟩;refine ⟨_,rfl,?_⟩;have n_:=an_ (blk_below (pk_ Ja.out) hb)<|an_ (blk_below (pk_ Ka.out) hb)<|D (below_step (pB_ HB.out) hb);clear Ja Ka HB;obtain ⟨Ja,Ka,HB⟩:=n_;(try clear hb)))
 have H := HU5.out
 clear HU5
 by_cases c11 : Oh = true
 ·subst c11
  rw [if_pos rfl] at H;obtain ⟨Oa,A120,H⟩:=bs_.mp H;(try dsimp only at H);have A12:=D A120;clear A120;have HU13:=D H;clear H;(try have hnb14:=Ue.out);(try have hnc14:=Xe.out);obtain ⟨Uo,Xo,Jp,Kp,Mp,Op,Up,Xp,Jq,Kq,Mq,Oq⟩:=cells6 Ja.out
  go_upto_if 20 with (first|((with_reducible refine gate_callee (f:=14) rfl ?_);refine goesL_ (some 18) rfl rfl Try.func14 (by kernel_rfl) rfl #[.agg #[I L a0_0,I L a0_1,I L a0_2,I L a0_3,Y A0_4 l0_4.length c0_4,Y A0_5 l0_5.length c0_5],I L a1] rfl Z13 ?_;(with_reducible refine (spec_l20At.calls k a0_0 a0_1 a0_2 a0_3 _ _ l0_4 _ _ l0_5 a1 Oa _ ?side1 ?side2 ?side3 ?side4 A12.out).mono ?_);(case side1=>exact pC_ (Kd.C_below HR0_4.out HB.out));(case side2=>exact HC0_4.out);(case side3=>exact pC_ (Kd.C_below HR0_5.out HB.out));(case side4=>exact HC0_5.out);rintro e w16 ⟨rfl,hb⟩;refine ⟨_,rfl,?_⟩;have n_:=an_ (blk_below (pk_ Ja.out) hb)<|an_ (blk_below (pk_ Ka.out) hb)<|D (below_step (pB_ HB.out) hb);clear Ja Ka HB;obtain ⟨Ja,Ka,HB⟩:=n_;(try clear hb)))
  have H := HU13.out; clear HU13
  by_cases c17 : Oa < 0
  ·rw [if_pos c17] at H
   have c17b0:decide (Oa < 0)=true:=decide_eq_true c17;clear c17;refine rw_ c17b0 ?_;simp only [Option.some.injEq,Prod.mk.injEq] at H;obtain ⟨rfl,rfl,rfl,rfl,rfl,rfl,rfl⟩:=H;(try have hnb18:=Xe.out);(try have hnc18:=Ue.out);obtain ⟨Uq,Xq,Jr,Kr,Mr,Or,Ur,Xr,Js,Ks,Ms,Os⟩:=cells6 Ka.out
   go_wp2
   refine bodyPost_ret (results_ct rfl _ _ Jb 37 #[I L 0,I L 0,I L 0,I L 0,Y none 0 0,Y none 0 0] (0,0) _ rfl Z3 Try.underlying37 rfl (by kernel_rfl)) rfl ?_;exact ⟨_,_,er_,by first|exact Kd.R_nil _ _ _ _ _|exact Kd.N_nil _ _ _ _ _|exact Kd.V_nil _ _ _ _ _|exact Kd.Q_nil _ _ _ _ _|exact Kd.S_nil _ _ _ _ _,by first|exact Kd.S_nil _ _ _ _ _|exact Kd.N_nil _ _ _ _ _|exact Kd.V_nil _ _ _ _ _|exact Kd.Q_nil _ _ _ _ _|exact Kd.R_nil _ _ _ _ _,pB_ HB.out⟩
  ·rw [if_neg c17] at H
   have c17b0:decide (Oa < 0)=false:=decide_eq_false c17;clear c17;refine rw_ c17b0 ?_
   by_cases c20 : 0 ≤ Oa
   ·rw [if_pos c20] at H
    have c20b0 : decide (0 ≤ Oa) = true := decide_eq_true c20; clear c20
    by_cases c21 : Oa < (l0_5.length : Int)
    ·rw [if_pos c21] at H
     have c21b0:decide (Oa < (l0_5.length:Int))=true:=decide_eq_true c21;clear c21;obtain ⟨⟨Xb,Kc,Oc,Jd,Ub,Og⟩,A220,H⟩:=bs_.mp H;(try dsimp only at H);have A22:=D A220;clear A220;have HU23:=D H;clear H;(try have hnb24:=Ue.out);(try have hnc24:=Xe.out);obtain ⟨Us,Xs,Ju,Ku,Mu,Ou,Uu,Xu,Jv,Kv,Mv,Ov⟩:=cells6 Ja.out;have p225:0≤(Oa:Int):=od_ Z60;have q225:Oa < (l0_5.length:Int):=od_ Z60;obtain ⟨ad225,A225_5,c225_5,e225,hx225_0,hx225_1,hx225_2,hx225_3,hx225_4,hx225_5,hl225_5,hi225_5⟩:=at_T50 HR0_5.out Oa p225 q225;cases e225;replace hx225_0:=rc_ HB.out hx225_0;replace hx225_1:=rc_ HB.out hx225_1;replace hx225_2:=rc_ HB.out hx225_2;replace hx225_3:=rc_ HB.out hx225_3;replace hx225_4:=rc_ HB.out hx225_4;replace hx225_5:=rc_ HB.out hx225_5;have HR225_5:=D hi225_5;have HC225_5:=D hl225_5;clear hi225_5 hl225_5;replace p225:=eq_true p225;replace q225:=eq_true q225
     go_upto_if 34 with (first|((with_reducible refine gate_callee (f:=15) rfl ?_);refine goesL_ (some 30) rfl rfl Try.func15 (by kernel_rfl) rfl #[.agg #[I L ((rd_T50 l0_5 Oa).f1.f0),I L ((rd_T50 l0_5 Oa).f1.f1.f0),I L ((rd_T50 l0_5 Oa).f1.f1.f1),I L ((rd_T50 l0_5 Oa).f1.f1.f2),Y A225_5 ((rd_T50 l0_5 Oa).f1.f2).length c225_5],I L a2] rfl Z13 ?_;(with_reducible refine (spec_FairWake.calls k ((rd_T50 l0_5 Oa).f1.f0) ((rd_T50 l0_5 Oa).f1.f1.f0) ((rd_T50 l0_5 Oa).f1.f1.f1) ((rd_T50 l0_5 Oa).f1.f1.f2) _ _ ((rd_T50 l0_5 Oa).f1.f2) a2 Xb Kc Oc Jd Ub Og _ ?side1 ?side2 A22.out).mono ?_);(case side1=>exact pC_ (Kd.C_below HR225_5.out HB.out));(case side2=>exact HC225_5.out);rintro e w26 ⟨Uv,rfl,ho0,hb⟩;refine ⟨_,rfl,?_⟩;have n_:=an_ (Kd.R_lower ho0 (below_size (pB_ HB.out)))<|an_ (blk_below (pk_ Ja.out) hb)<|an_ (blk_below (pk_ Ka.out) hb)<|D (below_step (pB_ HB.out) hb);clear Ja Ka HB;obtain ⟨Kb,Ja,Ka,HB⟩:=n_;(try clear hb);(try clear ho0))|((with_reducible refine gate_dst (N:=9) rfl ?_);refine bx_ (N:=9) (cs:=#[I L 0,I L 0,I L 0,I L 0,Y none 0 0]) (t:=34) ?_;intro Ob hg w27 hbox hb;have n_:=an_ (Kd.R_below (pR_ Kb.out) hb)<|an_ (blk_below (pk_ Ja.out) hb)<|an_ (blk_below (pk_ Ka.out) hb)<|an_ (below_step (pB_ HB.out) hb)<|an_ (hbox)<|an_ (bg_ hg (pB_ HB.out):w.heap.size≤Ob)<|an_ (bg_ hg (pB_ HB.out):w.heap.size≤Ob)<|an_ ((by rw [hg];exact Nat.ne_of_lt (blk_lt (pk_ Ja.out)):Mb≠Ob))<|an_ ((by rw [hg];exact Nat.ne_of_gt (blk_lt (pk_ Ja.out)):Ob≠Mb))<|an_ ((by rw [hg];exact Nat.ne_of_lt (blk_lt (pk_ Ka.out)):Jb≠Ob))<|D (by rw [hg];exact Nat.ne_of_gt (blk_lt (pk_ Ka.out)):Ob≠Jb);clear Kb Ja Ka HB;obtain ⟨Kb,Ja,Ka,HB,Ua,Xv,Jx,Jf,Uh,Kf,Xh⟩:=n_;clear hb hbox hg;(try have hnb28:=Uh.out);(try have hnc28:=Jf.out);(try have hnb29:=Xh.out);(try have hnc29:=Kf.out);obtain ⟨Kx,Mx,Ox,Ux,Xx,Jy,Ky,My,Oy,Uy⟩:=cells5 Ua.out;obtain ⟨Oe,Ke,eo31⟩:=Kd.R_slice Kb.out;subst eo31))
     refine relet_ (F:=fun w32=>Aside0 (Kd.R k52 52 w32 w.heap.size (fun _=>True) (Y Oe Ub.length Ke) Ub)∧Aside0 (w32.heap[Mb]?=some (.cells #[I L a0_0,I L a0_1,I L a0_2,I L a0_3,Y A0_4 l0_4.length c0_4,Y (some ad225) l0_5.length c0_5] 37 (0,0)))∧Aside0 (w32.heap[Jb]?=some (.cells #[I L 0,I L 0,I L 0,I L 0,Y none 0 0,Y none 0 0] 37 (0,0)))∧Aside0 (w32.heap[Ob]?=some (.cells #[I L Xb,I L Kc,I L Oc,I L Jd,Y Oe Ub.length Ke] 34 (0,0)))∧Aside0 (Below w.heap.size w w32)) ⟨⟨rM_ (Kd.R_types Kb.out Ua.out (by decide)) (fun _ hk=>trivial)⟩,⟨pP_ Ja.out⟩,⟨pP_ Ka.out⟩,⟨pP_ Ua.out⟩,⟨pB_ HB.out⟩⟩ ?_;(try clear Kb);(try clear Ja);(try clear Ka);(try clear Ua);(try clear HB);rintro w32 ⟨Kb,Ja,Ka,Ua,HB⟩;have H:=HU23.out;clear HU23
     by_cases c33 : Og = 0
     ·rw [if_pos c33] at H
      have c33b0:(Og == 0)=true:=beq_iff_eq.mpr c33;have c33b1:(Og != 0)=false:=bne_eq_false_iff_eq.mpr c33;clear c33;refine rw_ c33b0 ?_
      by_cases c34 : Oa < (l0_4.length : Int)
      ·rw [if_pos c34] at H
       have c34b0:decide (Oa < (l0_4.length:Int))=true:=decide_eq_true c34;clear c34;have HU35:=D H;clear H;(try have hnb36:=Ue.out);(try have hnc36:=Xe.out);(try have hnb37:=Jf.out);(try have hnc37:=Uh.out);obtain ⟨Xy,Jz,Kz,Mz,Oz,Uz,Xz,Ja1,Ka1,Ma1,Oa1,Ua1⟩:=cells6 Ja.out
       go_upto_if 46 with (first|((with_reducible refine gate_dst (N:=11) rfl ?_);refine bx_ (N:=11) (cs:=#[I L 0,I L 0,I L 0,I L 0,Y none 0 0]) (t:=34) ?_;intro Ma hg w39 hbox hb;have n_:=an_ (Kd.R_below (pR_ Kb.out) hb)<|an_ (blk_below (pk_ Ja.out) hb)<|an_ (blk_below (pk_ Ka.out) hb)<|an_ (blk_below (pk_ Ua.out) hb)<|an_ (below_step (pB_ HB.out) hb)<|an_ (hbox)<|an_ (bg_ hg (pB_ HB.out):w.heap.size≤Ma)<|an_ (bg_ hg (pB_ HB.out):w.heap.size≤Ma)<|an_ ((by rw [hg];exact Nat.ne_of_lt (blk_lt (pk_ Ja.out)):Mb≠Ma))<|an_ ((by rw [hg];exact Nat.ne_of_gt (blk_lt (pk_ Ja.out)):Ma≠Mb))<|an_ ((by rw [hg];exact Nat.ne_of_lt (blk_lt (pk_ Ka.out)):Jb≠Ma))<|an_ ((by rw [hg];exact Nat.ne_of_gt (blk_lt (pk_ Ka.out)):Ma≠Jb))<|an_ ((by rw [hg];exact Nat.ne_of_lt (blk_lt (pk_ Ua.out)):Ob≠Ma))<|D (by rw [hg];exact Nat.ne_of_gt (blk_lt (pk_ Ua.out)):Ma≠Ob);clear Kb Ja Ka Ua HB;obtain ⟨Kb,Ja,Ka,Ua,HB,Xa,Jh,Xa1,Md,Jj,Od,Kj,Ud,Mj⟩:=n_;clear hb hbox hg;(try have hnb40:=Jj.out);(try have hnc40:=Md.out);(try have hnb41:=Kj.out);(try have hnc41:=Od.out);(try have hnb42:=Mj.out);(try have hnc42:=Ud.out);obtain ⟨Jb1,Kb1,Mb1,Ob1,Ub1,Xb1,Jc1,Kc1,Mc1,Oc1⟩:=cells5 Xa.out;obtain ⟨Uc1,Xc1,Jd1,Kd1,Md1,Od1,Ud1,Xd1,Je1,Ke1,Me1,Oe1⟩:=cells6 Ja.out;have p236:0≤(Oa:Int):=od_ Z60;have q236:Oa < (l0_4.length:Int):=od_ Z60;obtain ⟨ad236,e236,hx236_0,hx236_1,hx236_2,hx236_3,hx236_4,hx236_5⟩:=at_T52 HR0_4.out Oa p236 q236;cases e236;have hn236_0:ad236.block≠Ma:=Nat.ne_of_lt (Nat.lt_of_lt_of_le Z53 Jh.out);have hn236_1:ad236.block≠Ma:=Nat.ne_of_lt (Nat.lt_of_lt_of_le Z53 Jh.out);have hn236_2:ad236.block≠Ma:=Nat.ne_of_lt (Nat.lt_of_lt_of_le Z53 Jh.out);have hn236_3:ad236.block≠Ma:=Nat.ne_of_lt (Nat.lt_of_lt_of_le Z53 Jh.out);have hn236_4:ad236.block≠Ma:=Nat.ne_of_lt (Nat.lt_of_lt_of_le Z53 Jh.out);replace hx236_0:=rc_ HB.out hx236_0;replace hx236_1:=rc_ HB.out hx236_1;replace hx236_2:=rc_ HB.out hx236_2;replace hx236_3:=rc_ HB.out hx236_3;replace hx236_4:=rc_ HB.out hx236_4;replace hx236_5:=rc_ HB.out hx236_5;replace hx236_0:=(cell_far (p:=⟨Ma,0,none⟩) Z15 (I L a0_0)).trans hx236_0;replace hx236_1:=(cell_far (p:=⟨Ma,0,none⟩) Z15 (I L a0_0)).trans hx236_1;replace hx236_2:=(cell_far (p:=⟨Ma,0,none⟩) Z15 (I L a0_0)).trans hx236_2;replace hx236_3:=(cell_far (p:=⟨Ma,0,none⟩) Z15 (I L a0_0)).trans hx236_3;replace hx236_4:=(cell_far (p:=⟨Ma,0,none⟩) Z15 (I L a0_0)).trans hx236_4;replace hx236_5:=(cell_far (p:=⟨Ma,0,none⟩) Z15 (I L a0_0)).trans hx236_5;replace hx236_0:=(cell_far (p:=⟨Ma,1,none⟩) Z16 (I L a0_1)).trans hx236_0;replace hx236_1:=(cell_far (p:=⟨Ma,1,none⟩) Z16 (I L a0_1)).trans hx236_1;replace hx236_2:=(cell_far (p:=⟨Ma,1,none⟩) Z16 (I L a0_1)).trans hx236_2;replace hx236_3:=(cell_far (p:=⟨Ma,1,none⟩) Z16 (I L a0_1)).trans hx236_3;replace hx236_4:=(cell_far (p:=⟨Ma,1,none⟩) Z16 (I L a0_1)).trans hx236_4;replace hx236_5:=(cell_far (p:=⟨Ma,1,none⟩) Z16 (I L a0_1)).trans hx236_5;replace hx236_0:=(cell_far (p:=⟨Ma,2,none⟩) Z17 (I L a0_2)).trans hx236_0;replace hx236_1:=(cell_far (p:=⟨Ma,2,none⟩) Z17 (I L a0_2)).trans hx236_1;replace hx236_2:=(cell_far (p:=⟨Ma,2,none⟩) Z17 (I L a0_2)).trans hx236_2;replace hx236_3:=(cell_far (p:=⟨Ma,2,none⟩) Z17 (I L a0_2)).trans hx236_3;replace hx236_4:=(cell_far (p:=⟨Ma,2,none⟩) Z17 (I L a0_2)).trans hx236_4;replace hx236_5:=(cell_far (p:=⟨Ma,2,none⟩) Z17 (I L a0_2)).trans hx236_5;replace hx236_0:=(cell_far (p:=⟨Ma,3,none⟩) Z18 (I L a0_3)).trans hx236_0;replace hx236_1:=(cell_far (p:=⟨Ma,3,none⟩) Z18 (I L a0_3)).trans hx236_1;replace hx236_2:=(cell_far (p:=⟨Ma,3,none⟩) Z18 (I L a0_3)).trans hx236_2;replace hx236_3:=(cell_far (p:=⟨Ma,3,none⟩) Z18 (I L a0_3)).trans hx236_3;replace hx236_4:=(cell_far (p:=⟨Ma,3,none⟩) Z18 (I L a0_3)).trans hx236_4;replace hx236_5:=(cell_far (p:=⟨Ma,3,none⟩) Z18 (I L a0_3)).trans hx236_5;replace hx236_0:=(cell_far (p:=⟨Ma,4,none⟩) Z19 (Y (some ad236) l0_4.length c0_4)).trans hx236_0;replace hx236_1:=(cell_far (p:=⟨Ma,4,none⟩) Z19 (Y (some ad236) l0_4.length c0_4)).trans hx236_1;replace hx236_2:=(cell_far (p:=⟨Ma,4,none⟩) Z19 (Y (some ad236) l0_4.length c0_4)).trans hx236_2;replace hx236_3:=(cell_far (p:=⟨Ma,4,none⟩) Z19 (Y (some ad236) l0_4.length c0_4)).trans hx236_3;replace hx236_4:=(cell_far (p:=⟨Ma,4,none⟩) Z19 (Y (some ad236) l0_4.length c0_4)).trans hx236_4;replace hx236_5:=(cell_far (p:=⟨Ma,4,none⟩) Z19 (Y (some ad236) l0_4.length c0_4)).trans hx236_5;clear hn236_0;clear hn236_1;clear hn236_2;clear hn236_3;clear hn236_4;replace p236:=eq_true p236;replace q236:=eq_true q236))
       refine relet_ (F:=fun w45=>Aside0 (Kd.R k52 52 w45 w.heap.size (fun _=>True) (Y Oe Ub.length Ke) Ub)∧Aside0 (w45.heap[Mb]?=some (.cells #[I L a0_0,I L a0_1,I L a0_2,I L a0_3,Y (some ad236) l0_4.length c0_4,Y (some ad225) l0_5.length c0_5] 37 (0,0)))∧Aside0 (w45.heap[Jb]?=some (.cells #[I L 0,I L 0,I L 0,I L 0,Y none 0 0,Y none 0 0] 37 (0,0)))∧Aside0 (w45.heap[Ob]?=some (.cells #[I L Xb,I L Kc,I L Oc,I L Jd,Y Oe Ub.length Ke] 34 (0,0)))∧Aside0 (w45.heap[Ma]?=some (.cells #[I L a0_0,I L a0_1,I L a0_2,I L a0_3,Y (some ad236) l0_4.length c0_4] 34 (0,0)))∧Aside0 (Below w.heap.size w w45)) ⟨⟨rM_ (Kd.R_types Kb.out Xa.out (by decide)) (fun _ hk=>trivial)⟩,⟨pP_ Ja.out⟩,⟨pP_ Ka.out⟩,⟨pP_ Ua.out⟩,⟨pP_ Xa.out⟩,⟨pB_ HB.out⟩⟩ ?_;(try clear Kb);(try clear Ja);(try clear Ka);(try clear Ua);(try clear Xa);(try clear HB);rintro w45 ⟨Kb,Ja,Ka,Ua,Xa,HB⟩;have H:=HU35.out;clear HU35;obtain ⟨bq46,hbq46⟩:∃ b_:Bool,b_=((rd_T52 l0_4 Oa).f2):=⟨_,rfl⟩
       replace H:(if (bq46=true) then ((spec_l20With.f k a0_0 a0_1 a0_2 a0_3 l0_4 l0_5 a0_0 a0_1 a0_2 a0_3 l0_4 Oa Xb Kc Oc Jd Ub).bind fun bt237=>(some (bt237.1,bt237.2.1,bt237.2.2.1,bt237.2.2.2.1,bt237.2.2.2.2.1,bt237.2.2.2.2.2,0))) else ((spec_FairWake.f k a0_0 a0_1 a0_2 a0_3 l0_4 a1).bind fun bt247=>((spec_l20With.f k a0_0 a0_1 a0_2 a0_3 l0_4 l0_5 bt247.1 bt247.2.1 bt247.2.2.1 bt247.2.2.2.1 bt247.2.2.2.2.1 Oa Xb Kc Oc Jd Ub).bind fun bt255=>(some (bt255.1,bt255.2.1,bt255.2.2.1,bt255.2.2.2.1,bt255.2.2.2.2.1,bt255.2.2.2.2.2,0)))))=some (r1,r2,r3,r4,r5,r6,r7):=by rw [← hbq46] at H;exact H
       have Nbq46 := D hbq46; clear hbq46; (try rw [← Nbq46.out])
       by_cases c47 : (bq46 = true)
       ·subst c47;(try simp only [Bool.not_true,Bool.not_false])
        rw [if_pos rfl] at H;obtain ⟨⟨Mf,Uf,Kg,Ug,Kh,Ji⟩,A480,H⟩:=bs_.mp H;(try dsimp only at H);have A48:=D A480;clear A480;simp only [Option.some.injEq,Prod.mk.injEq] at H;obtain ⟨rfl,rfl,rfl,rfl,rfl,rfl,rfl⟩:=H;(try have hnb49:=Ue.out);(try have hnc49:=Xe.out);(try have hnb50:=Jf.out);(try have hnc50:=Uh.out);(try have hnb51:=Md.out);(try have hnc51:=Jj.out);obtain ⟨Ue1,Xe1,Jf1,Kf1,Mf1,Of1,Uf1,Xf1,Jg1,Kg1,Mg1,Og1⟩:=cells6 Ja.out;(try have hnb53:=Kj.out);(try have hnc53:=Od.out);(try have hnb54:=Mj.out);(try have hnc54:=Ud.out);obtain ⟨Ug1,Xg1,Jh1,Kh1,Mh1,Oh1,Uh1,Xh1,Ji1,Ki1⟩:=cells5 Xa.out;(try have hnb56:=Xh.out);(try have hnc56:=Kf.out);obtain ⟨Mi1,Oi1,Ui1,Xi1,Jj1,Kj1,Mj1,Oj1,Uj1,Xj1⟩:=cells5 Ua.out
        go_wp2_with (first|((with_reducible refine gate_callee (f:=16) rfl ?_);refine goesL_ (some 58) rfl rfl Try.func16 (by kernel_rfl) rfl #[.agg #[I L a0_0,I L a0_1,I L a0_2,I L a0_3,Y (some ad236) l0_4.length c0_4,Y (some ad225) l0_5.length c0_5],.agg #[I L a0_0,I L a0_1,I L a0_2,I L a0_3,Y (some ad236) l0_4.length c0_4],I L Oa,.agg #[I L Xb,I L Kc,I L Oc,I L Jd,Y Oe Ub.length Ke]] rfl Z13 ?_;(with_reducible refine (spec_l20With.calls k a0_0 a0_1 a0_2 a0_3 _ _ l0_4 _ _ l0_5 a0_0 a0_1 a0_2 a0_3 _ _ l0_4 Oa Xb Kc Oc Jd _ _ Ub Mf Uf Kg Ug Kh Ji _ ?side1 ?side2 ?side3 ?side4 ?side5 ?side6 ?side7 ?side8 A48.out).mono ?_);(case side1=>exact pC_ (Kd.C_below HR0_4.out HB.out));(case side2=>exact HC0_4.out);(case side3=>exact pC_ (Kd.C_below HR0_5.out HB.out));(case side4=>exact HC0_5.out);(case side5=>exact pC_ (Kd.C_below HR0_4.out HB.out));(case side6=>exact HC0_4.out);(case side7=>exact pC_ ((Kd.R_reads' Kb.out).2.2));(case side8=>exact (Kd.R_reads' Kb.out).2.1);rintro e w58 ⟨Jk1,Kk1,rfl,ho0,ho1,hb⟩;refine ⟨_,rfl,?_⟩;have n_:=an_ (Kd.R_elder' (pR_ Kb.out) (Kd.R_base ho0) hb)<|an_ (Kd.R_lower (nw_ ho0 (pR_ Kb.out)) (below_size (pB_ HB.out)))<|an_ (Kd.S_lower (Kd.S_new' ho1 (Kd.R_lt (pR_ Kb.out))) (below_size (pB_ HB.out)))<|an_ (blk_below (pk_ Ja.out) hb)<|an_ (blk_below (pk_ Ka.out) hb)<|an_ (blk_below (pk_ Ua.out) hb)<|an_ (blk_below (pk_ Xa.out) hb)<|D (below_step (pB_ HB.out) hb);clear Kb Ja Ka Ua Xa HB;obtain ⟨Kb,Kk,Mk,Ja,Ka,Ua,Xa,HB⟩:=n_;(try clear hb);(try clear ho0);(try clear ho1);obtain ⟨Mk1,Ok1,Uk1,Xk1,Jm1,Km1,Mm1,Om1,Um1,Xm1,Jn1,Kn1⟩:=cells6 Ka.out;obtain ⟨Ki,Mi,eo60⟩:=Kd.R_slice Kk.out;subst eo60;obtain ⟨Oj,Uj,eo61⟩:=Kd.S_slice Mk.out;subst eo61))
        refine bodyPost_ret (results_ct rfl _ _ Jb 37 #[I L Mf,I L Uf,I L Kg,I L Ug,Y Ki Kh.length Mi,Y Oj Ji.length Uj] (0,0) _ rfl (by exact pP_ Ka.out) Try.underlying37 rfl (by kernel_rfl)) rfl ?_;exact ⟨_,_,er_,by (with_reducible repeat (first|apply Kd.R_alloc|apply Kd.R_drewN|apply Kd.R_drew));exact Kd.R_mono (fr_ (fr_ (fr_ (fr_ (fr_ (fr_ (Kd.R_types Kk.out Ka.out (by decide)) 0 (I L Mf)) 1 (I L Uf)) 2 (I L Kg)) 3 (I L Ug)) 4 (Y Ki Kh.length Mi)) 5 (Y Oj Ji.length Uj)) (fun _ hk=>trivial),by (with_reducible repeat (first|apply Kd.S_alloc|apply Kd.S_drewN|apply Kd.S_drew));exact Kd.S_mono (Kd.S_far (p:=⟨Jb,5,none⟩) (Kd.S_far (p:=⟨Jb,4,none⟩) (Kd.S_far (p:=⟨Jb,3,none⟩) (Kd.S_far (p:=⟨Jb,2,none⟩) (Kd.S_far (p:=⟨Jb,1,none⟩) (Kd.S_far (p:=⟨Jb,0,none⟩) (Kd.S_types Mk.out Ka.out (by decide)) (fun _ hk=>hk.2) (I L Mf)) (fun _ hk=>hk.2) (I L Uf)) (fun _ hk=>hk.2) (I L Kg)) (fun _ hk=>hk.2) (I L Ug)) (fun _ hk=>hk.2) (Y Ki Kh.length Mi)) (fun _ hk=>hk.2) (Y Oj Ji.length Uj)) (fun _ hk=>hk.1.1),pB_ HB.out⟩
       ·replace c47 := Bool.eq_false_iff.mpr c47
        subst c47;(try simp only [Bool.not_true,Bool.not_false]);rw [if_neg (show ¬ (false=true) by decide)] at H;obtain ⟨⟨Jc,Mc,Uc,Xd,Xc,Xk⟩,A620,H⟩:=bs_.mp H;(try dsimp only at H);have A62:=D A620;clear A620;obtain ⟨⟨Of,Xf,Mg,Xg,Mh,Oi⟩,A630,H⟩:=bs_.mp H;(try dsimp only at H);have A63:=D A630;clear A630;simp only [Option.some.injEq,Prod.mk.injEq] at H;obtain ⟨rfl,rfl,rfl,rfl,rfl,rfl,rfl⟩:=H;(try have hnb64:=Ue.out);(try have hnc64:=Xe.out);(try have hnb65:=Jf.out);(try have hnc65:=Uh.out);(try have hnb66:=Md.out);(try have hnc66:=Jj.out);obtain ⟨Mn1,On1,Un1,Xn1,Jo1,Ko1,Mo1,Oo1,Uo1,Xo1,Jp1,Kp1⟩:=cells6 Ja.out
        go_wp2_with (first|((with_reducible refine gate_callee (f:=15) rfl ?_);refine goesL_ (some 51) rfl rfl Try.func15 (by kernel_rfl) rfl #[.agg #[I L a0_0,I L a0_1,I L a0_2,I L a0_3,Y (some ad236) l0_4.length c0_4],I L a1] rfl Z13 ?_;(with_reducible refine (spec_FairWake.calls k a0_0 a0_1 a0_2 a0_3 _ _ l0_4 a1 Jc Mc Uc Xd Xc Xk _ ?side1 ?side2 A62.out).mono ?_);(case side1=>exact pC_ (Kd.C_below HR0_4.out HB.out));(case side2=>exact HC0_4.out);rintro e w68 ⟨Mp1,rfl,ho0,hb⟩;refine ⟨_,rfl,?_⟩;have n_:=an_ (Kd.R_elder' (pR_ Kb.out) (Kd.R_base ho0) hb)<|an_ (Kd.R_lower (nw_ ho0 (pR_ Kb.out)) (below_size (pB_ HB.out)))<|an_ (blk_below (pk_ Ja.out) hb)<|an_ (blk_below (pk_ Ka.out) hb)<|an_ (blk_below (pk_ Ua.out) hb)<|an_ (blk_below (pk_ Xa.out) hb)<|D (below_step (pB_ HB.out) hb);clear Kb Ja Ka Ua Xa HB;obtain ⟨Kb,Jg,Ja,Ka,Ua,Xa,HB⟩:=n_;(try clear hb);(try clear ho0);(try have hnb69:=Kj.out);(try have hnc69:=Od.out);(try have hnb70:=Mj.out);(try have hnc70:=Ud.out);obtain ⟨Op1,Up1,Xp1,Jq1,Kq1,Mq1,Oq1,Uq1,Xq1,Jr1⟩:=cells5 Xa.out;obtain ⟨Me,Je,eo72⟩:=Kd.R_slice Jg.out;subst eo72;obtain ⟨Kr1,Mr1,Or1,Ur1,Xr1,Js1,Ks1,Ms1,Os1,Us1,Xs1,Ju1⟩:=cells6 Ja.out;(try have hnb74:=Xh.out);(try have hnc74:=Kf.out);obtain ⟨Ku1,Mu1,Ou1,Uu1,Xu1,Jv1,Kv1,Mv1,Ov1,Uv1⟩:=cells5 Ua.out)|((with_reducible refine gate_callee (f:=16) rfl ?_);refine goesL_ (some 58) rfl rfl Try.func16 (by kernel_rfl) rfl #[.agg #[I L a0_0,I L a0_1,I L a0_2,I L a0_3,Y (some ad236) l0_4.length c0_4,Y (some ad225) l0_5.length c0_5],.agg #[I L Jc,I L Mc,I L Uc,I L Xd,Y Me Xc.length Je],I L Oa,.agg #[I L Xb,I L Kc,I L Oc,I L Jd,Y Oe Ub.length Ke]] rfl Z13 ?_;(with_reducible refine (spec_l20With.calls k a0_0 a0_1 a0_2 a0_3 _ _ l0_4 _ _ l0_5 Jc Mc Uc Xd _ _ Xc Oa Xb Kc Oc Jd _ _ Ub Of Xf Mg Xg Mh Oi _ ?side1 ?side2 ?side3 ?side4 ?side5 ?side6 ?side7 ?side8 A63.out).mono ?_);(case side1=>exact Kd.C_below HR0_4.out (pB_ HB.out));(case side2=>exact HC0_4.out);(case side3=>exact Kd.C_below HR0_5.out (pB_ HB.out));(case side4=>exact HC0_5.out);(case side5=>refine (Kd.R_reads' (e:=52) (base:=w.heap.size) (ok:=fun k_=>(True∧some k_≠(Y Oe Ub.length Ke:Value).ownBlock)) (n:=Xc.length) (c:=Je) ?_).2.2;exact (rM_ (Kd.R_types Jg.out Xa.out (by decide)) (fun _ h_=>h_.1)));(case side6=>exact (Kd.R_reads' Jg.out).2.1);(case side7=>refine (Kd.R_reads' (e:=52) (base:=w.heap.size) (ok:=fun k_=>(True∧some k_≠(Y Me Xc.length Je:Value).ownBlock)) (n:=Ub.length) (c:=Ke) ?_).2.2;exact (rM_ (Kd.R_types Kb.out Xa.out (by decide)) (fun _ h_=>h_.1)));(case side8=>exact (Kd.R_reads' Kb.out).2.1);rintro e w76 ⟨Xv1,Jx1,rfl,ho0,ho1,hb⟩;refine ⟨_,rfl,?_⟩;have n_:=an_ (Kd.R_elder' (rM_ (Kd.R_types Kb.out Xa.out (by decide)) (fun _ h_=>h_.1)) (Kd.R_base ho0) hb)<|an_ (Kd.R_elder' (rM_ (Kd.R_types Jg.out Xa.out (by decide)) (fun _ h_=>h_.1)) (Kd.R_base ho0) hb)<|an_ (Kd.R_lower (nw_ (nw_ ho0 (rM_ (Kd.R_types Kb.out Xa.out (by decide)) (fun _ h_=>h_.1))) (rM_ (Kd.R_types Jg.out Xa.out (by decide)) (fun _ h_=>h_.1))) (below_size (pB_ HB.out)))<|an_ (Kd.S_lower (Kd.S_new' (Kd.S_new' ho1 (Kd.R_lt (rM_ (Kd.R_types Kb.out Xa.out (by decide)) (fun _ h_=>h_.1)))) (Kd.R_lt (rM_ (Kd.R_types Jg.out Xa.out (by decide)) (fun _ h_=>h_.1)))) (below_size (pB_ HB.out)))<|an_ (blk_below (g:=Mb) (o:=.cells #[I L a0_0,I L a0_1,I L a0_2,I L a0_3,Y (some ad236) l0_4.length c0_4,Y (some ad225) l0_5.length c0_5] 37 (0,0)) (by exact pP_ Ja.out) hb)<|an_ (blk_below (g:=Jb) (o:=.cells #[I L 0,I L 0,I L 0,I L 0,Y none 0 0,Y none 0 0] 37 (0,0)) (by exact pP_ Ka.out) hb)<|an_ (blk_below (g:=Ob) (o:=.cells #[I L Xb,I L Kc,I L Oc,I L Jd,Y Oe Ub.length Ke] 34 (0,0)) (by exact pP_ Ua.out) hb)<|an_ (blk_below (g:=Ma) (o:=.cells #[I L Jc,I L Mc,I L Uc,I L Xd,Y Me Xc.length Je] 34 (0,0)) (by exact pP_ Xa.out) hb)<|D (below_step (pB_ HB.out) hb);clear Kb Jg Ja Ka Ua Xa HB;obtain ⟨Kb,Jg,Ok,Uk,Ja,Ka,Ua,Xa,HB⟩:=n_;(try clear hb);(try clear ho0);(try clear ho1);obtain ⟨Kx1,Mx1,Ox1,Ux1,Xx1,Jy1,Ky1,My1,Oy1,Uy1,Xy1,Jz1⟩:=cells6 Ka.out;obtain ⟨Ui,Xi,eo78⟩:=Kd.R_slice Ok.out;subst eo78;obtain ⟨Xj,Jk,eo79⟩:=Kd.S_slice Uk.out;subst eo79))
        refine bodyPost_ret (results_ct rfl _ _ Jb 37 #[I L Of,I L Xf,I L Mg,I L Xg,Y Ui Mh.length Xi,Y Xj Oi.length Jk] (0,0) _ rfl (by exact pP_ Ka.out) Try.underlying37 rfl (by kernel_rfl)) rfl ?_;exact ⟨_,_,er_,by (with_reducible repeat (first|apply Kd.R_alloc|apply Kd.R_drewN|apply Kd.R_drew));exact Kd.R_mono (fr_ (fr_ (fr_ (fr_ (fr_ (fr_ (Kd.R_types Ok.out Ka.out (by decide)) 0 (I L Of)) 1 (I L Xf)) 2 (I L Mg)) 3 (I L Xg)) 4 (Y Ui Mh.length Xi)) 5 (Y Xj Oi.length Jk)) (fun _ hk=>trivial),by (with_reducible repeat (first|apply Kd.S_alloc|apply Kd.S_drewN|apply Kd.S_drew));exact Kd.S_mono (Kd.S_far (p:=⟨Jb,5,none⟩) (Kd.S_far (p:=⟨Jb,4,none⟩) (Kd.S_far (p:=⟨Jb,3,none⟩) (Kd.S_far (p:=⟨Jb,2,none⟩) (Kd.S_far (p:=⟨Jb,1,none⟩) (Kd.S_far (p:=⟨Jb,0,none⟩) (Kd.S_types Uk.out Ka.out (by decide)) (fun _ hk=>hk.2) (I L Of)) (fun _ hk=>hk.2) (I L Xf)) (fun _ hk=>hk.2) (I L Mg)) (fun _ hk=>hk.2) (I L Xg)) (fun _ hk=>hk.2) (Y Ui Mh.length Xi)) (fun _ hk=>hk.2) (Y Xj Oi.length Jk)) (fun _ hk=>hk.1.1.1),pB_ HB.out⟩
      ·rw [if_neg c34] at H
       exact absurd H (by simp)
     ·rw [if_neg c33] at H
      have c33b0:(Og == 0)=false:=beq_eq_false_iff_ne.mpr c33;have c33b1:(Og != 0)=true:=bne_iff_ne.mpr c33;refine rw_ c33b0 ?_;simp only [Option.some.injEq,Prod.mk.injEq] at H;obtain ⟨rfl,rfl,rfl,rfl,rfl,rfl,rfl⟩:=H;(try have hnb80:=Xe.out);(try have hnc80:=Ue.out);(try have hnb81:=Kf.out);(try have hnc81:=Xh.out);obtain ⟨Kz1,Mz1,Oz1,Uz1,Xz1,Ja2,Ka2,Ma2,Oa2,Ua2,Xa2,Jb2⟩:=cells6 Ka.out
      go_wp2
      refine bodyPost_ret (results_ct rfl _ _ Jb 37 #[I L 0,I L 0,I L 0,I L 0,Y none 0 0,Y none 0 0] (0,0) _ rfl Z3 Try.underlying37 rfl (by kernel_rfl)) rfl ?_;exact ⟨_,_,er_,by first|exact Kd.R_nil _ _ _ _ _|exact Kd.N_nil _ _ _ _ _|exact Kd.V_nil _ _ _ _ _|exact Kd.Q_nil _ _ _ _ _|exact Kd.S_nil _ _ _ _ _,by first|exact Kd.S_nil _ _ _ _ _|exact Kd.N_nil _ _ _ _ _|exact Kd.V_nil _ _ _ _ _|exact Kd.Q_nil _ _ _ _ _|exact Kd.R_nil _ _ _ _ _,pB_ HB.out⟩
    ·rw [if_neg c21] at H
     exact absurd H (by simp)
   ·rw [if_neg c20] at H
    exact absurd H (by simp)
 ·replace c11 := Bool.eq_false_iff.mpr c11
  subst c11;rw [if_neg (show ¬ (false=true) by decide)] at H;simp only [Option.some.injEq,Prod.mk.injEq] at H;obtain ⟨rfl,rfl,rfl,rfl,rfl,rfl,rfl⟩:=H;(try have hnb83:=Xe.out);(try have hnc83:=Ue.out);obtain ⟨Kb2,Mb2,Ob2,Ub2,Xb2,Jc2,Kc2,Mc2,Oc2,Uc2,Xc2,Jd2⟩:=cells6 Ka.out
  go_wp2
  refine bodyPost_ret (results_ct rfl _ _ Jb 37 #[I L 0,I L 0,I L 0,I L 0,Y none 0 0,Y none 0 0] (0,0) _ rfl Z3 Try.underlying37 rfl (by kernel_rfl)) rfl ?_;exact ⟨_,_,er_,by first|exact Kd.R_nil _ _ _ _ _|exact Kd.N_nil _ _ _ _ _|exact Kd.V_nil _ _ _ _ _|exact Kd.Q_nil _ _ _ _ _|exact Kd.S_nil _ _ _ _ _,by first|exact Kd.S_nil _ _ _ _ _|exact Kd.N_nil _ _ _ _ _|exact Kd.V_nil _ _ _ _ _|exact Kd.Q_nil _ _ _ _ _|exact Kd.R_nil _ _ _ _ _,pB_ HB.out⟩

/-! ### laws_toVec: function 35 -/
def laws_toVec.f (a0_0 a0_1 a0_2 : Int) : Option (Int × Int × Int) := some (a0_0, a0_1, a0_2)
set_option maxHeartbeats 8000000 in
set_option maxRecDepth 100000 in
theorem laws_toVec.calls (a0_0 a0_1 a0_2 r1 r2 r3 : Int) (w : World) (h : laws_toVec.f a0_0 a0_1 a0_2 = some (r1, r2, r3)) :
  Calls Try.prog 35 #[.agg #[I L a0_0, I L a0_1, I L a0_2]] w fun e w' => e = .returned (.agg #[I L r1, I L r2, I L r3]) ∧ Below w.heap.size w w' := by
 have hu23 := Try.underlying23
 have hu31 := Try.underlying31
 have HB := D (Below.refl w.heap.size w)
 have H : (some (a0_0, a0_1, a0_2)) = some (r1, r2, r3) := h
 clear h
 simp only [Option.some.injEq, Prod.mk.injEq] at H
 obtain ⟨rfl, rfl, rfl⟩ := H
 go_enter Try.func35, Try.ntmps35
 go_wp2_with (first|((with_reducible refine gate_dst (N:=1) rfl ?_);refine bx_ (N:=1) (cs:=#[I L a0_0,I L a0_1,I L a0_2]) (t:=23) ?_;intro gb265 hg w2 hbox hb;have n_:=an_ (below_step (pB_ HB.out) hb)<|an_ (hbox)<|an_ (bg_ hg (pB_ HB.out):w.heap.size≤gb265)<|D (bg_ hg (pB_ HB.out):w.heap.size≤gb265);clear HB;obtain ⟨HB,BK265,GW265,GE265⟩:=n_;clear hb hbox hg)|((with_reducible refine gate_dst (N:=2) rfl ?_);refine bx_ (N:=2) (cs:=#[I L 0,I L 0,I L 0]) (t:=31) ?_;intro gb266 hg w3 hbox hb;have n_:=an_ (blk_below (pk_ BK265.out) hb)<|an_ (below_step (pB_ HB.out) hb)<|an_ (hbox)<|an_ (bg_ hg (pB_ HB.out):w.heap.size≤gb266)<|an_ (bg_ hg (pB_ HB.out):w.heap.size≤gb266)<|an_ ((by rw [hg];exact Nat.ne_of_lt (blk_lt (pk_ BK265.out)):gb265≠gb266))<|D (by rw [hg];exact Nat.ne_of_gt (blk_lt (pk_ BK265.out)):gb266≠gb265);clear BK265 HB;obtain ⟨BK265,HB,BK266,GW266,GE266,NB265_266,NB266_265⟩:=n_;clear hb hbox hg)|((with_reducible refine gate_dst (N:=3) rfl ?_);refine bx_ (N:=3) (cs:=#[I L 0,I L 0,I L 0]) (t:=31) ?_;intro gb267 hg w4 hbox hb;have n_:=an_ (blk_below (pk_ BK265.out) hb)<|an_ (blk_below (pk_ BK266.out) hb)<|an_ (below_step (pB_ HB.out) hb)<|an_ (hbox)<|an_ (bg_ hg (pB_ HB.out):w.heap.size≤gb267)<|an_ (bg_ hg (pB_ HB.out):w.heap.size≤gb267)<|an_ ((by rw [hg];exact Nat.ne_of_lt (blk_lt (pk_ BK265.out)):gb265≠gb267))<|an_ ((by rw [hg];exact Nat.ne_of_gt (blk_lt (pk_ BK265.out)):gb267≠gb265))<|an_ ((by rw [hg];exact Nat.ne_of_lt (blk_lt (pk_ BK266.out)):gb266≠gb267))<|D (by rw [hg];exact Nat.ne_of_gt (blk_lt (pk_ BK266.out)):gb267≠gb266);clear BK265 BK266 HB;obtain ⟨BK265,BK266,HB,BK267,GW267,GE267,NB265_267,NB267_265,NB266_267,NB267_266⟩:=n_;clear hb hbox hg;(try have hnb5:=NB265_266.out);(try have hnc5:=NB266_265.out);(try have hnb6:=NB265_267.out);(try have hnc6:=NB267_265.out);obtain ⟨hcz7_0,hcz7_1,hcz7_2,hfz7_0,hfz7_1,hfz7_2⟩:=cells3 BK265.out;(try have hnb8:=NB267_266.out);(try have hnc8:=NB266_267.out);obtain ⟨hcz9_0,hcz9_1,hcz9_2,hfz9_0,hfz9_1,hfz9_2⟩:=cells3 BK267.out;obtain ⟨hcz10_0,hcz10_1,hcz10_2,hfz10_0,hfz10_1,hfz10_2⟩:=cells3 BK266.out))
 refine bodyPost_ret (results_cell_row rfl _ _ gb266 31 #[I L a0_0,I L a0_1,I L a0_2] (0,0) _ rfl (by exact pP_ BK266.out) Try.underlying31 rfl (by kernel_rfl)) rfl ?_
 exact ⟨er_, pB_ HB.out⟩

/-! ### laws_toKid: function 52 -/
def laws_toKid.f (a0_0 a0_1 : Int) (a0_2 : Bool) (a0_3 a0_4 a0_5 : Int) : Option (Int × Int × Bool × Int × Int × Int) := (laws_toVec.f a0_3 a0_4 a0_5).bind fun bt271 => (some (a0_0, a0_1, a0_2, bt271.1, bt271.2.1, bt271.2.2))
set_option maxHeartbeats 8000000 in
set_option maxRecDepth 100000 in
theorem laws_toKid.calls (a0_0 a0_1 : Int) (a0_2 : Bool) (a0_3 a0_4 a0_5 r1 r2 : Int) (r3 : Bool) (r4 r5 r6 : Int) (w : World) (h : laws_toKid.f a0_0 a0_1 a0_2 a0_3 a0_4 a0_5 = some (r1, r2, r3, r4, r5, r6)) :
  Calls Try.prog 52 #[.agg #[I L a0_0,I L a0_1,.bool a0_2,I L a0_3,I L a0_4,I L a0_5]] w fun e w'=>e=.returned (.agg #[I L r1,I L r2,.bool r3,I L r4,I L r5,I L r6])∧Below w.heap.size w w':=by
 have hu86 := Try.underlying86
 have hu52 := Try.underlying52
 have hu23 := Try.underlying23
 have hu31 := Try.underlying31
 have HB := D (Below.refl w.heap.size w)
 have H : ((laws_toVec.f a0_3 a0_4 a0_5).bind fun bt271 => (some (a0_0, a0_1, a0_2, bt271.1, bt271.2.1, bt271.2.2))) = some (r1, r2, r3, r4, r5, r6) := h
 clear h
 obtain ⟨⟨t271, t272, t273⟩, A20, H⟩ := bs_.mp H
 (try dsimp only at H)
 have A2 := D A20
 clear A20
 simp only [Option.some.injEq, Prod.mk.injEq] at H
 obtain ⟨rfl, rfl, rfl, rfl, rfl, rfl⟩ := H
 go_enter Try.func52, Try.ntmps52
 go_wp2_with (first|((with_reducible refine gate_dst (N:=1) rfl ?_);refine bx_ (N:=1) (cs:=#[I L a0_0,I L a0_1,.bool a0_2,I L a0_3,I L a0_4,I L a0_5]) (t:=86) ?_;intro gb268 hg w3 hbox hb;have n_:=an_ (below_step (pB_ HB.out) hb)<|an_ (hbox)<|an_ (bg_ hg (pB_ HB.out):w.heap.size≤gb268)<|D (bg_ hg (pB_ HB.out):w.heap.size≤gb268);clear HB;obtain ⟨HB,BK268,GW268,GE268⟩:=n_;clear hb hbox hg)|((with_reducible refine gate_dst (N:=2) rfl ?_);refine bx_ (N:=2) (cs:=#[I L 0,I L 0,.bool false,I L 0,I L 0,I L 0]) (t:=52) ?_;intro gb269 hg w4 hbox hb;have n_:=an_ (blk_below (pk_ BK268.out) hb)<|an_ (below_step (pB_ HB.out) hb)<|an_ (hbox)<|an_ (bg_ hg (pB_ HB.out):w.heap.size≤gb269)<|an_ (bg_ hg (pB_ HB.out):w.heap.size≤gb269)<|an_ ((by rw [hg];exact Nat.ne_of_lt (blk_lt (pk_ BK268.out)):gb268≠gb269))<|D (by rw [hg];exact Nat.ne_of_gt (blk_lt (pk_ BK268.out)):gb269≠gb268);clear BK268 HB;obtain ⟨BK268,HB,BK269,GW269,GE269,NB268_269,NB269_268⟩:=n_;clear hb hbox hg)|((with_reducible refine gate_dst (N:=3) rfl ?_);refine bx_ (N:=3) (cs:=#[I L 0,I L 0,.bool false,I L 0,I L 0,I L 0]) (t:=52) ?_;intro gb270 hg w5 hbox hb;have n_:=an_ (blk_below (pk_ BK268.out) hb)<|an_ (blk_below (pk_ BK269.out) hb)<|an_ (below_step (pB_ HB.out) hb)<|an_ (hbox)<|an_ (bg_ hg (pB_ HB.out):w.heap.size≤gb270)<|an_ (bg_ hg (pB_ HB.out):w.heap.size≤gb270)<|an_ ((by rw [hg];exact Nat.ne_of_lt (blk_lt (pk_ BK268.out)):gb268≠gb270))<|an_ ((by rw [hg];exact Nat.ne_of_gt (blk_lt (pk_ BK268.out)):gb270≠gb268))<|an_ ((by rw [hg];exact Nat.ne_of_lt (blk_lt (pk_ BK269.out)):gb269≠gb270))<|D (by rw [hg];exact Nat.ne_of_gt (blk_lt (pk_ BK269.out)):gb270≠gb269);clear BK268 BK269 HB;obtain ⟨BK268,BK269,HB,BK270,GW270,GE270,NB268_270,NB270_268,NB269_270,NB270_269⟩:=n_;clear hb hbox hg;(try have hnb6:=NB268_269.out);(try have hnc6:=NB269_268.out);(try have hnb7:=NB268_270.out);(try have hnc7:=NB270_268.out);obtain ⟨hcz8_0,hcz8_1,hcz8_2,hcz8_3,hcz8_4,hcz8_5,hfz8_0,hfz8_1,hfz8_2,hfz8_3,hfz8_4,hfz8_5⟩:=cells6 BK268.out;(try have hnb9:=NB270_269.out);(try have hnc9:=NB269_270.out);obtain ⟨hcz10_0,hcz10_1,hcz10_2,hcz10_3,hcz10_4,hcz10_5,hfz10_0,hfz10_1,hfz10_2,hfz10_3,hfz10_4,hfz10_5⟩:=cells6 BK270.out)|((with_reducible refine gate_callee (f:=35) rfl ?_);refine goesL_ (some 15) rfl rfl Try.func35 (by kernel_rfl) rfl #[.agg #[I L a0_3,I L a0_4,I L a0_5]] rfl Z13 ?_;(with_reducible refine (laws_toVec.calls a0_3 a0_4 a0_5 t271 t272 t273 _ A2.out).mono ?_);rintro e w11 ⟨rfl,hb⟩;refine ⟨_,rfl,?_⟩;have n_:=an_ (blk_below (g:=gb268) (o:=.cells #[I L a0_0,I L a0_1,.bool a0_2,I L a0_3,I L a0_4,I L a0_5] 86 (0,0)) (by exact pP_ BK268.out) hb)<|an_ (blk_below (g:=gb269) (o:=.cells #[I L 0,I L 0,.bool false,I L 0,I L 0,I L 0] 52 (0,0)) (by exact pP_ BK269.out) hb)<|an_ (blk_below (g:=gb270) (o:=.cells #[I L a0_0,I L a0_1,.bool a0_2,I L 0,I L 0,I L 0] 52 (0,0)) (by exact pP_ BK270.out) hb)<|D (below_step (pB_ HB.out) hb);clear BK268 BK269 BK270 HB;obtain ⟨BK268,BK269,BK270,HB⟩:=n_;(try clear hb);obtain ⟨hcz12_0,hcz12_1,hcz12_2,hcz12_3,hcz12_4,hcz12_5,hfz12_0,hfz12_1,hfz12_2,hfz12_3,hfz12_4,hfz12_5⟩:=cells6 BK270.out;obtain ⟨hcz13_0,hcz13_1,hcz13_2,hcz13_3,hcz13_4,hcz13_5,hfz13_0,hfz13_1,hfz13_2,hfz13_3,hfz13_4,hfz13_5⟩:=cells6 BK269.out))
 refine bodyPost_ret (results_cell_row rfl _ _ gb269 52 #[I L a0_0,I L a0_1,.bool a0_2,I L t271,I L t272,I L t273] (0,0) _ rfl (by exact pP_ BK269.out) Try.underlying52 rfl (by kernel_rfl)) rfl ?_
 exact ⟨er_, pB_ HB.out⟩

/-! ### laws_toKidS: function 36 -/
def laws_toKidS.l0 : Nat → List (S86) → List (S52) → Int → Option ((List (S52)))
 | 0, _, _, _ => none
 | k + 1,x0,x3,x4=>if x4 < (x0.length:Int) then (if 0≤x4 then ((laws_toKid.f ((rd_T86 x0 x4).f0) ((rd_T86 x0 x4).f1) ((rd_T86 x0 x4).f2) ((rd_T86 x0 x4).f3.f0) ((rd_T86 x0 x4).f3.f1) ((rd_T86 x0 x4).f3.f2)).bind fun bt278=>(if x4 < (x3.length:Int) then (laws_toKidS.l0 k x0 (x3.set (x4:Int).toNat (⟨bt278.1,bt278.2.1,bt278.2.2.1,(⟨bt278.2.2.2.1,bt278.2.2.2.2.1,bt278.2.2.2.2.2⟩:S31)⟩:S52)) (wrap64 (x4 + 1))) else (none))) else (none)) else (some x3)
def laws_toKidS.f (k : Nat) (l0 : List (S86)) : Option ((List (S52))) := if 0 ≤ (l0.length : Int) then (if ((l0.length : Int) : Int).toNat ≤ 5864062014805 then (laws_toKidS.l0 k l0 (List.replicate ((l0.length : Int) : Int).toNat z52) 0) else (none)) else (none)
set_option maxHeartbeats 8000000 in
set_option maxRecDepth 100000 in
theorem laws_toKidS.calls (k : Nat) (A0 : Option Addr) (c0 : Nat) (l0 : List (S86)) (r : List (S52)) (w : World) (hr0 : Kd.C k86 w A0 l0.length l0) (hc0 : l0.length ≤ c0) (h : laws_toKidS.f k l0 = some r) :
  Calls Try.prog 36 #[Y A0 l0.length c0] w fun e w' => ∃ v0_ : Value, e = .returned (v0_) ∧ Kd.R k52 52 w' w.heap.size (fun _ => True) v0_ r ∧ Below w.heap.size w w' := by
 have hu86 := Try.underlying86
 have hu52 := Try.underlying52
 have HR0 := D hr0
 have HC0 := D hc0
 clear hr0 hc0
 have HB := D (Below.refl w.heap.size w)
 have H:(if 0≤(l0.length:Int) then (if ((l0.length:Int):Int).toNat≤5864062014805 then (laws_toKidS.l0 k l0 (List.replicate ((l0.length:Int):Int).toNat z52) 0) else (none)) else (none))=some r:=h
 clear h
 by_cases c2 : 0 ≤ (l0.length : Int)
 ·rw [if_pos c2] at H
  have c2b0 := eq_true c2; have c2b1 : decide (0 ≤ (l0.length : Int)) = true := decide_eq_true c2; clear c2
  by_cases c3 : ((l0.length : Int) : Int).toNat ≤ 5864062014805
  ·rw [if_pos c3] at H
   have c3b0:=eq_true c3;have c3b1:decide (((l0.length:Int):Int).toNat≤5864062014805)=true:=decide_eq_true c3;clear c3;obtain ⟨y274,hy274⟩:∃ y_:List (S52),y_=(List.replicate ((l0.length:Int):Int).toNat z52):=⟨_,rfl⟩
   replace H:(laws_toKidS.l0 k l0 y274 0)=some r:=by first|(rw [hy274];with_reducible exact H)|(have H2_:=(Option.bind_some _ _).symm.trans H;rw [hy274];with_reducible exact H2_)|(have H2_:=(Option.bind_some _ _).symm.trans H;with_reducible exact H2_)|with_reducible exact H|(rw [hy274];exact H)|exact H
   have Ny274 := D hy274; clear hy274; have H' := D H; clear H; go_enter Try.func36, Try.ntmps36
   go_wp2_with (first|((with_reducible refine gate_dst (N:=7) rfl ?_);refine Kd.R_make k52 _ 52 rfl (N:=7) rfl 32 _ _ rfl (l0.length:Int) rfl rfl Try.underlying32 (.agg #[(I L 0),(I L 0),(.bool false),(I L 0),(I L 0),(I L 0)]) 48 info52 rfl (by decide) (by omega) z52 (ok:=fun _=>True) (okp:=fun _=>True) (k52_mkM _ _ _ z52 ) (fun _ hk=>hk) trivial (od_ Z60) (Nat.le_trans (Nat.mul_le_mul_right _ (od_ Z60:(l0.length:Int).toNat≤5864062014805)) (by omega)) (Below.refl _ _) (Nat.le_refl _) ?_;intro v275 w4 ho5 hb hg_ hnew_;clear hg_ hnew_;(first|rw [← Ny274.out] at ho5|(simp only [Int.reduceToNat] at ho5;rw [← Ny274.out] at ho5));have n_:=an_ (Kd.R_lower ho5 (below_size (pB_ HB.out)))<|D (below_step (pB_ HB.out) hb);clear HB;obtain ⟨HO276,HB⟩:=n_;clear hb ho5))
   go_loopg [4] k (fun kq v4 w'=>∃ (x3_1:List (S52)) (x4_1:Int),v4=I L x4_1∧Aside0 (laws_toKidS.l0 kq l0 x3_1 x4_1=some r)∧Aside0 (kq≤k)∧Aside0 (Kd.R k52 52 w' w.heap.size (fun _=>True) v275 x3_1)∧Aside0 (Below w.heap.size w w'))
   case atStart => exact ⟨(y274), (0), Z61, H', ⟨Nat.le_refl _⟩, ⟨pR_ HO276.out⟩, ⟨pB_ HB.out⟩⟩
   case round =>
    clear H'
    try clear c2
    try clear c2b0
    try clear c2b1
    try clear p2
    try clear c3
    try clear c3b0
    try clear c3b1
    obtain ⟨x3_1, x4_1, rfl, HA, HK1, HO_3, HB⟩ := hrel
    cases gk with
    | zero => exact absurd HA.out (by simp [laws_toKidS.l0])
    | succ k1 =>
     have H := HA.out; clear HA; simp only [laws_toKidS.l0] at H
     by_cases c6 : x4_1 < (l0.length : Int)
     ·rw [if_pos c6] at H
      have c6b0 : decide (x4_1 < (l0.length : Int)) = true := decide_eq_true c6; clear c6
      by_cases c7 : 0 ≤ x4_1
      ·rw [if_pos c7] at H
       have c7b0:decide (0≤x4_1)=true:=decide_eq_true c7;clear c7;obtain ⟨⟨t278,t279,t280,t281,t282,t283⟩,A80,H⟩:=bs_.mp H;(try dsimp only at H);have A8:=D A80;clear A80
       by_cases c9 : x4_1 < (x3_1.length : Int)
       ·rw [if_pos c9] at H
        have c9b0:decide (x4_1 < (x3_1.length:Int))=true:=decide_eq_true c9;clear c9;obtain ⟨y284,hy284⟩:∃ y_:List (S52),y_=(x3_1.set (x4_1:Int).toNat (⟨t278,t279,t280,(⟨t281,t282,t283⟩:S31)⟩:S52)):=⟨_,rfl⟩
        replace H:(laws_toKidS.l0 k1 l0 y284 (wrap64 (x4_1 + 1)))=some r:=by first|(rw [hy284];with_reducible exact H)|(have H2_:=(Option.bind_some _ _).symm.trans H;rw [hy284];with_reducible exact H2_)|(have H2_:=(Option.bind_some _ _).symm.trans H;with_reducible exact H2_)|with_reducible exact H|(rw [hy284];exact H)|exact H
        have Ny284:=D hy284;clear hy284;have H':=D H;clear H;have p277:0≤(x4_1:Int):=od_ Z60;have q277:x4_1 < (l0.length:Int):=od_ Z60;obtain ⟨ad277,e277,hx277_0,hx277_1,hx277_2,hx277_3,hx277_4,hx277_5⟩:=at_T86 HR0.out x4_1 p277 q277;cases e277;replace hx277_0:=rc_ HB.out hx277_0;replace hx277_1:=rc_ HB.out hx277_1;replace hx277_2:=rc_ HB.out hx277_2;replace hx277_3:=rc_ HB.out hx277_3;replace hx277_4:=rc_ HB.out hx277_4;replace hx277_5:=rc_ HB.out hx277_5;replace p277:=eq_true p277;replace q277:=eq_true q277
        go_wp2_with (first|((with_reducible refine gate_callee (f:=52) rfl ?_);refine goesL_ (some 20) rfl rfl Try.func52 (by kernel_rfl) rfl #[.agg #[I L ((rd_T86 l0 x4_1).f0),I L ((rd_T86 l0 x4_1).f1),.bool ((rd_T86 l0 x4_1).f2),I L ((rd_T86 l0 x4_1).f3.f0),I L ((rd_T86 l0 x4_1).f3.f1),I L ((rd_T86 l0 x4_1).f3.f2)]] rfl Z13 ?_;(with_reducible refine (laws_toKid.calls ((rd_T86 l0 x4_1).f0) ((rd_T86 l0 x4_1).f1) ((rd_T86 l0 x4_1).f2) ((rd_T86 l0 x4_1).f3.f0) ((rd_T86 l0 x4_1).f3.f1) ((rd_T86 l0 x4_1).f3.f2) t278 t279 t280 t281 t282 t283 _ A8.out).mono ?_);rintro e w11 ⟨rfl,hb⟩;refine ⟨_,rfl,?_⟩;have n_:=an_ (Kd.R_below (pR_ HO_3.out) hb)<|D (below_step (pB_ HB.out) hb);clear HO_3 HB;obtain ⟨HO_3,HB⟩:=n_;(try clear hb);have p10:0≤(x4_1:Int):=od_ Z60;have q10:(x4_1:Int) < ((x3_1.length:Int):Int):=od_ Z60;obtain ⟨go10,co10,eo10,gb10,gl10,cl10,HG10⟩:=Kd.R_form HO_3.out (by omega);(first|cases eo10|(injection eo10 with ea_ en_ ec_;(first|subst ea_|(injection ea_ with ea_;subst ea_));subst ec_;clear en_));have GB10:=D gb10;have GG10:=D HG10;clear gb10 gl10 HG10;obtain ⟨ce10,hcl10,hM10,hcc10,hfr10⟩:=Kd.R_elem HO_3.out z52 (x4_1:Int) p10 q10;obtain rfl:=k52_openM hM10;have hx10_0:w11.cell? ⟨go10,(x4_1:Int).toNat * 6,none⟩=some (I L ((rd_T52 x3_1 x4_1).f0)):=hcc10 0 _ rfl;have hx10_1:w11.cell? ⟨go10,(x4_1:Int).toNat * 6 + 1,none⟩=some (I L ((rd_T52 x3_1 x4_1).f1)):=hcc10 1 _ rfl;have hx10_2:w11.cell? ⟨go10,(x4_1:Int).toNat * 6 + 2,none⟩=some (.bool ((rd_T52 x3_1 x4_1).f2)):=hcc10 2 _ rfl;have hx10_3:w11.cell? ⟨go10,(x4_1:Int).toNat * 6 + 3,none⟩=some (I L ((rd_T52 x3_1 x4_1).f3.f0)):=hcc10 3 _ rfl;have hx10_4:w11.cell? ⟨go10,(x4_1:Int).toNat * 6 + 4,none⟩=some (I L ((rd_T52 x3_1 x4_1).f3.f1)):=hcc10 4 _ rfl;have hx10_5:w11.cell? ⟨go10,(x4_1:Int).toNat * 6 + 5,none⟩=some (I L ((rd_T52 x3_1 x4_1).f3.f2)):=hcc10 5 _ rfl;have hf10_0:w11.frozen? ⟨go10,(x4_1:Int).toNat * 6,none⟩=false:=hfr10 0;have hf10_1:w11.frozen? ⟨go10,(x4_1:Int).toNat * 6 + 1,none⟩=false:=hfr10 1;have hf10_2:w11.frozen? ⟨go10,(x4_1:Int).toNat * 6 + 2,none⟩=false:=hfr10 2;have hf10_3:w11.frozen? ⟨go10,(x4_1:Int).toNat * 6 + 3,none⟩=false:=hfr10 3;have hf10_4:w11.frozen? ⟨go10,(x4_1:Int).toNat * 6 + 4,none⟩=false:=hfr10 4;have hf10_5:w11.frozen? ⟨go10,(x4_1:Int).toNat * 6 + 5,none⟩=false:=hfr10 5;clear hcl10 hcc10 hfr10 hM10;replace p10:=eq_true p10;replace q10:=eq_true q10;have HX12:=D (show Kd.R k52 52 w11 w.heap.size (fun _=>True) (Y (some ⟨go10,0,none⟩) x3_1.length co10) x3_1 from (pR_ HO_3.out));obtain ⟨ce12,hcl12,hM12,hcc12,hfr12⟩:=Kd.R_elem HX12.out z52 (x4_1:Int) (od_ Z60) (by have h_:(x4_1:Int) < ((x3_1.length:Int):Int):=od_ Z60;first|exact h_|(have e_:=(Kd.R_reads' HO_3.out).1;omega)|simpa using h_);obtain rfl:=k52_openM hM12;have HP12:=Kd.R_seg HX12.out (x4_1:Int) (od_ Z60) (by have h_:(x4_1:Int) < ((x3_1.length:Int):Int):=od_ Z60;first|exact h_|(have e_:=(Kd.R_reads' HO_3.out).1;omega)|simpa using h_) (seg:=[I L t278,I L t279,.bool t280,I L t281,I L t282,I L t283]) (j:=0) hcl12 hcc12 (show 6≤6 from by decide) (x':=(⟨t278,t279,t280,(⟨t281,t282,t283⟩:S31)⟩:S52)) (k52_mkM _ _ _ (⟨t278,t279,t280,(⟨t281,t282,t283⟩:S31)⟩:S52) ) (fun _ hk=>hk);have hx12_0:=hcc12 0 _ rfl;(try simp only [show (k52).sz=6 from rfl,Nat.mul_one,Nat.add_zero] at hx12_0);have hf12_0:=hfr12 0;(try simp only [show (k52).sz=6 from rfl,Nat.mul_one,Nat.add_zero] at hf12_0);have hx12_1:=hcc12 1 _ rfl;(try simp only [show (k52).sz=6 from rfl,Nat.mul_one,Nat.add_zero] at hx12_1);have hf12_1:=hfr12 1;(try simp only [show (k52).sz=6 from rfl,Nat.mul_one,Nat.add_zero] at hf12_1);have hx12_2:=hcc12 2 _ rfl;(try simp only [show (k52).sz=6 from rfl,Nat.mul_one,Nat.add_zero] at hx12_2);have hf12_2:=hfr12 2;(try simp only [show (k52).sz=6 from rfl,Nat.mul_one,Nat.add_zero] at hf12_2);have hx12_3:=hcc12 3 _ rfl;(try simp only [show (k52).sz=6 from rfl,Nat.mul_one,Nat.add_zero] at hx12_3);have hf12_3:=hfr12 3;(try simp only [show (k52).sz=6 from rfl,Nat.mul_one,Nat.add_zero] at hf12_3);have hx12_4:=hcc12 4 _ rfl;(try simp only [show (k52).sz=6 from rfl,Nat.mul_one,Nat.add_zero] at hx12_4);have hf12_4:=hfr12 4;(try simp only [show (k52).sz=6 from rfl,Nat.mul_one,Nat.add_zero] at hf12_4);have hx12_5:=hcc12 5 _ rfl;(try simp only [show (k52).sz=6 from rfl,Nat.mul_one,Nat.add_zero] at hx12_5);have hf12_5:=hfr12 5;(try simp only [show (k52).sz=6 from rfl,Nat.mul_one,Nat.add_zero] at hf12_5);clear hcl12 hcc12 hfr12 hM12)|((with_reducible refine gate_store (t:=52) (p:=21) rfl ?_);refine store_event (t:=52) (p:=21) (v:=?vo_w13) (w1:=((((((w11.setCell ⟨go10,(x4_1:Int).toNat * 6,none⟩ (I L t278)).setCell ⟨go10,(x4_1:Int).toNat * 6 + 1,none⟩ (I L t279)).setCell ⟨go10,(x4_1:Int).toNat * 6 + 2,none⟩ (.bool t280)).setCell ⟨go10,(x4_1:Int).toNat * 6 + 3,none⟩ (I L t281)).setCell ⟨go10,(x4_1:Int).toNat * 6 + 4,none⟩ (I L t282)).setCell ⟨go10,(x4_1:Int).toNat * 6 + 5,none⟩ (I L t283))) ?hg ?ho ?hn ?hr ?_;(case ho=>rfl);(case hg=>rfl);(case hn=>rfl);(case hr=>first|(go_simp;done)|(go_simp;rfl));intro w13 hw;have hg:w11.grownBy w13 (some go10):=Z63;have hp_:Kd.R k52 52 w13 w.heap.size (fun _=>True) (Y (some ⟨go10,0,none⟩) x3_1.length co10) y284:=(by rw [hw,Ny284.out];exact HP12.1);clear HP12;have n_:=an_ (hp_)<|D (by rw [hw];exact below_set (below_set (below_set (below_set (below_set (below_set (HB.out) GB10.out) GB10.out) GB10.out) GB10.out) GB10.out) GB10.out:Below w.heap.size w w13);clear HO_3 HB;obtain ⟨HO_3,HB⟩:=n_;clear hg hw hp_))
        go_roundg k1
        case measure => have := HK1.out; omega
        case rel => exact ⟨(y284), (wrap64 (x4_1 + 1)), Z61, H', ⟨by have := HK1.out; omega⟩, ⟨pR_ HO_3.out⟩, ⟨pB_ HB.out⟩⟩
       ·rw [if_neg c9] at H
        exact absurd H (by simp)
      ·rw [if_neg c7] at H
       exact absurd H (by simp)
     ·rw [if_neg c6] at H
      have c6b0 : decide (x4_1 < (l0.length : Int)) = false := decide_eq_false c6; clear c6; obtain rfl := Option.some.inj H
      go_wp2
      go_ret;exact ⟨_,er_,by (with_reducible repeat (first|apply Kd.R_alloc|apply Kd.R_drewN|apply Kd.R_drew));exact HO_3.out,pB_ HB.out⟩
  ·rw [if_neg c3] at H
   exact absurd H (by simp)
 ·rw [if_neg c2] at H
  exact absurd H (by simp)

/-! ### laws_toFair: function 17 -/
def laws_toFair.f (k : Nat) (a0_0 a0_1 a0_2 a0_3 : Int) (l0_4 : List (S86)) : Option (Int × Int × Int × Int × (List (S52))) := (laws_toVec.f a0_1 a0_2 a0_3).bind fun bt288 => ((laws_toKidS.f k l0_4).bind fun t291 => (some (a0_0, bt288.1, bt288.2.1, bt288.2.2, t291)))
set_option maxHeartbeats 8000000 in
set_option maxRecDepth 100000 in
theorem laws_toFair.calls (k : Nat) (a0_0 a0_1 a0_2 a0_3 : Int) (A0_4 : Option Addr) (c0_4 : Nat) (l0_4 : List (S86)) (r1 r2 r3 r4 : Int) (r5 : List (S52)) (w : World) (hr0_4 : Kd.C k86 w A0_4 l0_4.length l0_4) (hc0_4 : l0_4.length ≤ c0_4) (h : laws_toFair.f k a0_0 a0_1 a0_2 a0_3 l0_4 = some (r1, r2, r3, r4, r5)) :
  Calls Try.prog 17 #[.agg #[I L a0_0,I L a0_1,I L a0_2,I L a0_3,Y A0_4 l0_4.length c0_4]] w fun e w'=>∃ v4_:Value,e=.returned (.agg #[I L r1,I L r2,I L r3,I L r4,v4_])∧Kd.R k52 52 w' w.heap.size (fun _=>True) v4_ r5∧Below w.heap.size w w':=by
 have hu26 := Try.underlying26
 have hu34 := Try.underlying34
 have hu23 := Try.underlying23
 have hu31 := Try.underlying31
 have HR0_4 := D hr0_4
 have HC0_4 := D hc0_4
 clear hr0_4 hc0_4
 have HB := D (Below.refl w.heap.size w)
 have H : ((laws_toVec.f a0_1 a0_2 a0_3).bind fun bt288 => ((laws_toKidS.f k l0_4).bind fun t291 => (some (a0_0, bt288.1, bt288.2.1, bt288.2.2, t291)))) = some (r1, r2, r3, r4, r5) := h
 clear h
 obtain ⟨⟨t288, t289, t290⟩, A20, H⟩ := bs_.mp H
 (try dsimp only at H)
 have A2 := D A20
 clear A20
 obtain ⟨t291, A30, H⟩ := bs_.mp H
 (try dsimp only at H)
 have A3 := D A30
 clear A30
 simp only [Option.some.injEq, Prod.mk.injEq] at H
 obtain ⟨rfl, rfl, rfl, rfl, rfl⟩ := H
 go_enter Try.func17, Try.ntmps17
 go_wp2_with (first|((with_reducible refine gate_dst (N:=1) rfl ?_);refine bx_ (N:=1) (cs:=#[I L a0_0,I L a0_1,I L a0_2,I L a0_3,Y A0_4 l0_4.length c0_4]) (t:=26) ?_;intro gb285 hg w4 hbox hb;have n_:=an_ (below_step (pB_ HB.out) hb)<|an_ (hbox)<|an_ (bg_ hg (pB_ HB.out):w.heap.size≤gb285)<|D (bg_ hg (pB_ HB.out):w.heap.size≤gb285);clear HB;obtain ⟨HB,BK285,GW285,GE285⟩:=n_;clear hb hbox hg)|((with_reducible refine gate_dst (N:=2) rfl ?_);refine bx_ (N:=2) (cs:=#[I L 0,I L 0,I L 0,I L 0,Y none 0 0]) (t:=34) ?_;intro gb286 hg w5 hbox hb;have n_:=an_ (blk_below (pk_ BK285.out) hb)<|an_ (below_step (pB_ HB.out) hb)<|an_ (hbox)<|an_ (bg_ hg (pB_ HB.out):w.heap.size≤gb286)<|an_ (bg_ hg (pB_ HB.out):w.heap.size≤gb286)<|an_ ((by rw [hg];exact Nat.ne_of_lt (blk_lt (pk_ BK285.out)):gb285≠gb286))<|D (by rw [hg];exact Nat.ne_of_gt (blk_lt (pk_ BK285.out)):gb286≠gb285);clear BK285 HB;obtain ⟨BK285,HB,BK286,GW286,GE286,NB285_286,NB286_285⟩:=n_;clear hb hbox hg)|((with_reducible refine gate_dst (N:=3) rfl ?_);refine bx_ (N:=3) (cs:=#[I L 0,I L 0,I L 0,I L 0,Y none 0 0]) (t:=34) ?_;intro gb287 hg w6 hbox hb;have n_:=an_ (blk_below (pk_ BK285.out) hb)<|an_ (blk_below (pk_ BK286.out) hb)<|an_ (below_step (pB_ HB.out) hb)<|an_ (hbox)<|an_ (bg_ hg (pB_ HB.out):w.heap.size≤gb287)<|an_ (bg_ hg (pB_ HB.out):w.heap.size≤gb287)<|an_ ((by rw [hg];exact Nat.ne_of_lt (blk_lt (pk_ BK285.out)):gb285≠gb287))<|an_ ((by rw [hg];exact Nat.ne_of_gt (blk_lt (pk_ BK285.out)):gb287≠gb285))<|an_ ((by rw [hg];exact Nat.ne_of_lt (blk_lt (pk_ BK286.out)):gb286≠gb287))<|D (by rw [hg];exact Nat.ne_of_gt (blk_lt (pk_ BK286.out)):gb287≠gb286);clear BK285 BK286 HB;obtain ⟨BK285,BK286,HB,BK287,GW287,GE287,NB285_287,NB287_285,NB286_287,NB287_286⟩:=n_;clear hb hbox hg;(try have hnb7:=NB285_286.out);(try have hnc7:=NB286_285.out);(try have hnb8:=NB285_287.out);(try have hnc8:=NB287_285.out);obtain ⟨hcz9_0,hcz9_1,hcz9_2,hcz9_3,hcz9_4,hfz9_0,hfz9_1,hfz9_2,hfz9_3,hfz9_4⟩:=cells5 BK285.out;(try have hnb10:=NB287_286.out);(try have hnc10:=NB286_287.out);obtain ⟨hcz11_0,hcz11_1,hcz11_2,hcz11_3,hcz11_4,hfz11_0,hfz11_1,hfz11_2,hfz11_3,hfz11_4⟩:=cells5 BK287.out)|((with_reducible refine gate_callee (f:=35) rfl ?_);refine goesL_ (some 9) rfl rfl Try.func35 (by kernel_rfl) rfl #[.agg #[I L a0_1,I L a0_2,I L a0_3]] rfl Z13 ?_;(with_reducible refine (laws_toVec.calls a0_1 a0_2 a0_3 t288 t289 t290 _ A2.out).mono ?_);rintro e w12 ⟨rfl,hb⟩;refine ⟨_,rfl,?_⟩;have n_:=an_ (blk_below (g:=gb285) (o:=.cells #[I L a0_0,I L a0_1,I L a0_2,I L a0_3,Y A0_4 l0_4.length c0_4] 26 (0,0)) (by exact pP_ BK285.out) hb)<|an_ (blk_below (g:=gb286) (o:=.cells #[I L 0,I L 0,I L 0,I L 0,Y none 0 0] 34 (0,0)) (by exact pP_ BK286.out) hb)<|an_ (blk_below (g:=gb287) (o:=.cells #[I L a0_0,I L 0,I L 0,I L 0,Y none 0 0] 34 (0,0)) (by exact pP_ BK287.out) hb)<|D (below_step (pB_ HB.out) hb);clear BK285 BK286 BK287 HB;obtain ⟨BK285,BK286,BK287,HB⟩:=n_;(try clear hb);obtain ⟨hcz13_0,hcz13_1,hcz13_2,hcz13_3,hcz13_4,hfz13_0,hfz13_1,hfz13_2,hfz13_3,hfz13_4⟩:=cells5 BK287.out;obtain ⟨hcz14_0,hcz14_1,hcz14_2,hcz14_3,hcz14_4,hfz14_0,hfz14_1,hfz14_2,hfz14_3,hfz14_4⟩:=cells5 BK285.out)|((with_reducible refine gate_callee (f:=36) rfl ?_);refine goesL_ (some 13) rfl rfl Try.func36 (by kernel_rfl) rfl #[Y A0_4 l0_4.length c0_4] rfl Z13 ?_;(with_reducible refine (laws_toKidS.calls k _ _ l0_4 t291 _ ?side1 ?side2 A3.out).mono ?_);(case side1=>exact Kd.C_below HR0_4.out (pB_ HB.out));(case side2=>exact HC0_4.out);rintro e w15 ⟨v292,rfl,ho0,hb⟩;refine ⟨_,rfl,?_⟩;have n_:=an_ (Kd.R_lower ho0 (below_size (pB_ HB.out)))<|an_ (blk_below (g:=gb285) (o:=.cells #[I L a0_0,I L a0_1,I L a0_2,I L a0_3,Y A0_4 l0_4.length c0_4] 26 (0,0)) (by exact pP_ BK285.out) hb)<|an_ (blk_below (g:=gb286) (o:=.cells #[I L 0,I L 0,I L 0,I L 0,Y none 0 0] 34 (0,0)) (by exact pP_ BK286.out) hb)<|an_ (blk_below (g:=gb287) (o:=.cells #[I L a0_0,I L t288,I L t289,I L t290,Y none 0 0] 34 (0,0)) (by exact pP_ BK287.out) hb)<|D (below_step (pB_ HB.out) hb);clear BK285 BK286 BK287 HB;obtain ⟨HO293,BK285,BK286,BK287,HB⟩:=n_;(try clear hb);(try clear ho0);obtain ⟨Ao16,co16,eo16⟩:=Kd.R_slice HO293.out;subst eo16;obtain ⟨hcz17_0,hcz17_1,hcz17_2,hcz17_3,hcz17_4,hfz17_0,hfz17_1,hfz17_2,hfz17_3,hfz17_4⟩:=cells5 BK287.out;obtain ⟨hcz18_0,hcz18_1,hcz18_2,hcz18_3,hcz18_4,hfz18_0,hfz18_1,hfz18_2,hfz18_3,hfz18_4⟩:=cells5 BK286.out))
 refine bodyPost_ret (results_cell_row rfl _ _ gb286 34 #[I L a0_0,I L t288,I L t289,I L t290,Y Ao16 t291.length co16] (0,0) _ rfl (by exact pP_ BK286.out) Try.underlying34 rfl (by kernel_rfl)) rfl ?_
 exact ⟨_,er_,by (with_reducible repeat (first|apply Kd.R_alloc|apply Kd.R_drewN|apply Kd.R_drew));exact Kd.R_mono (fr_ (fr_ (fr_ (fr_ (fr_ (Kd.R_far (p:=⟨gb287,4,none⟩) (Kd.R_types (Kd.R_types HO293.out BK287.out (by decide)) BK286.out (by decide)) (fun _ hk=>hk.1.2) (Y Ao16 t291.length co16)) 0 (I L a0_0)) 1 (I L t288)) 2 (I L t289)) 3 (I L t290)) 4 (Y Ao16 t291.length co16)) (fun _ hk=>trivial),pB_ HB.out⟩

/-! ### laws_toBranch: function 37 -/
def laws_toBranch.f (k : Nat) (a0_0 a0_1 a0_2 a0_3 a0_4 : Int) (l0_5 : List (S86)) : Option (Int × Int × Int × Int × Int × (List (S52))) := (laws_toFair.f k a0_1 a0_2 a0_3 a0_4 l0_5).bind fun bt297 => (some (a0_0, bt297.1, bt297.2.1, bt297.2.2.1, bt297.2.2.2.1, bt297.2.2.2.2))
set_option maxHeartbeats 8000000 in
set_option maxRecDepth 100000 in
theorem laws_toBranch.calls (k : Nat) (a0_0 a0_1 a0_2 a0_3 a0_4 : Int) (A0_5 : Option Addr) (c0_5 : Nat) (l0_5 : List (S86)) (r1 r2 r3 r4 r5 : Int) (r6 : List (S52)) (w : World) (hr0_5 : Kd.C k86 w A0_5 l0_5.length l0_5) (hc0_5 : l0_5.length ≤ c0_5) (h : laws_toBranch.f k a0_0 a0_1 a0_2 a0_3 a0_4 l0_5 = some (r1, r2, r3, r4, r5, r6)) :
  Calls Try.prog 37 #[.agg #[I L a0_0,I L a0_1,I L a0_2,I L a0_3,I L a0_4,Y A0_5 l0_5.length c0_5]] w fun e w'=>∃ v5_:Value,e=.returned (.agg #[I L r1,I L r2,I L r3,I L r4,I L r5,v5_])∧Kd.R k52 52 w' w.heap.size (fun _=>True) v5_ r6∧Below w.heap.size w w':=by
 have hu66 := Try.underlying66
 have hu50 := Try.underlying50
 have hu26 := Try.underlying26
 have hu34 := Try.underlying34
 have HR0_5 := D hr0_5
 have HC0_5 := D hc0_5
 clear hr0_5 hc0_5
 have HB := D (Below.refl w.heap.size w)
 have H : ((laws_toFair.f k a0_1 a0_2 a0_3 a0_4 l0_5).bind fun bt297 => (some (a0_0, bt297.1, bt297.2.1, bt297.2.2.1, bt297.2.2.2.1, bt297.2.2.2.2))) = some (r1, r2, r3, r4, r5, r6) := h
 clear h
 obtain ⟨⟨t297, t298, t299, t300, t301⟩, A20, H⟩ := bs_.mp H
 (try dsimp only at H)
 have A2 := D A20
 clear A20
 simp only [Option.some.injEq, Prod.mk.injEq] at H
 obtain ⟨rfl, rfl, rfl, rfl, rfl, rfl⟩ := H
 go_enter Try.func37, Try.ntmps37
 go_wp2_with (first|((with_reducible refine gate_dst (N:=1) rfl ?_);refine bx_ (N:=1) (cs:=#[I L a0_0,I L a0_1,I L a0_2,I L a0_3,I L a0_4,Y A0_5 l0_5.length c0_5]) (t:=66) ?_;intro gb294 hg w3 hbox hb;have n_:=an_ (below_step (pB_ HB.out) hb)<|an_ (hbox)<|an_ (bg_ hg (pB_ HB.out):w.heap.size≤gb294)<|D (bg_ hg (pB_ HB.out):w.heap.size≤gb294);clear HB;obtain ⟨HB,BK294,GW294,GE294⟩:=n_;clear hb hbox hg)|((with_reducible refine gate_dst (N:=2) rfl ?_);refine bx_ (N:=2) (cs:=#[I L 0,I L 0,I L 0,I L 0,I L 0,Y none 0 0]) (t:=50) ?_;intro gb295 hg w4 hbox hb;have n_:=an_ (blk_below (pk_ BK294.out) hb)<|an_ (below_step (pB_ HB.out) hb)<|an_ (hbox)<|an_ (bg_ hg (pB_ HB.out):w.heap.size≤gb295)<|an_ (bg_ hg (pB_ HB.out):w.heap.size≤gb295)<|an_ ((by rw [hg];exact Nat.ne_of_lt (blk_lt (pk_ BK294.out)):gb294≠gb295))<|D (by rw [hg];exact Nat.ne_of_gt (blk_lt (pk_ BK294.out)):gb295≠gb294);clear BK294 HB;obtain ⟨BK294,HB,BK295,GW295,GE295,NB294_295,NB295_294⟩:=n_;clear hb hbox hg)|((with_reducible refine gate_dst (N:=3) rfl ?_);refine bx_ (N:=3) (cs:=#[I L 0,I L 0,I L 0,I L 0,I L 0,Y none 0 0]) (t:=50) ?_;intro gb296 hg w5 hbox hb;have n_:=an_ (blk_below (pk_ BK294.out) hb)<|an_ (blk_below (pk_ BK295.out) hb)<|an_ (below_step (pB_ HB.out) hb)<|an_ (hbox)<|an_ (bg_ hg (pB_ HB.out):w.heap.size≤gb296)<|an_ (bg_ hg (pB_ HB.out):w.heap.size≤gb296)<|an_ ((by rw [hg];exact Nat.ne_of_lt (blk_lt (pk_ BK294.out)):gb294≠gb296))<|an_ ((by rw [hg];exact Nat.ne_of_gt (blk_lt (pk_ BK294.out)):gb296≠gb294))<|an_ ((by rw [hg];exact Nat.ne_of_lt (blk_lt (pk_ BK295.out)):gb295≠gb296))<|D (by rw [hg];exact Nat.ne_of_gt (blk_lt (pk_ BK295.out)):gb296≠gb295);clear BK294 BK295 HB;obtain ⟨BK294,BK295,HB,BK296,GW296,GE296,NB294_296,NB296_294,NB295_296,NB296_295⟩:=n_;clear hb hbox hg;(try have hnb6:=NB294_295.out);(try have hnc6:=NB295_294.out);(try have hnb7:=NB294_296.out);(try have hnc7:=NB296_294.out);obtain ⟨hcz8_0,hcz8_1,hcz8_2,hcz8_3,hcz8_4,hcz8_5,hfz8_0,hfz8_1,hfz8_2,hfz8_3,hfz8_4,hfz8_5⟩:=cells6 BK294.out;(try have hnb9:=NB296_295.out);(try have hnc9:=NB295_296.out);obtain ⟨hcz10_0,hcz10_1,hcz10_2,hcz10_3,hcz10_4,hcz10_5,hfz10_0,hfz10_1,hfz10_2,hfz10_3,hfz10_4,hfz10_5⟩:=cells6 BK296.out)|((with_reducible refine gate_callee (f:=17) rfl ?_);refine goesL_ (some 9) rfl rfl Try.func17 (by kernel_rfl) rfl #[.agg #[I L a0_1,I L a0_2,I L a0_3,I L a0_4,Y A0_5 l0_5.length c0_5]] rfl Z13 ?_;(with_reducible refine (laws_toFair.calls k a0_1 a0_2 a0_3 a0_4 _ _ l0_5 t297 t298 t299 t300 t301 _ ?side1 ?side2 A2.out).mono ?_);(case side1=>exact Kd.C_below HR0_5.out (pB_ HB.out));(case side2=>exact HC0_5.out);rintro e w11 ⟨v302,rfl,ho0,hb⟩;refine ⟨_,rfl,?_⟩;have n_:=an_ (Kd.R_lower ho0 (below_size (pB_ HB.out)))<|an_ (blk_below (g:=gb294) (o:=.cells #[I L a0_0,I L a0_1,I L a0_2,I L a0_3,I L a0_4,Y A0_5 l0_5.length c0_5] 66 (0,0)) (by exact pP_ BK294.out) hb)<|an_ (blk_below (g:=gb295) (o:=.cells #[I L 0,I L 0,I L 0,I L 0,I L 0,Y none 0 0] 50 (0,0)) (by exact pP_ BK295.out) hb)<|an_ (blk_below (g:=gb296) (o:=.cells #[I L a0_0,I L 0,I L 0,I L 0,I L 0,Y none 0 0] 50 (0,0)) (by exact pP_ BK296.out) hb)<|D (below_step (pB_ HB.out) hb);clear BK294 BK295 BK296 HB;obtain ⟨HO303,BK294,BK295,BK296,HB⟩:=n_;(try clear hb);(try clear ho0);obtain ⟨hcz12_0,hcz12_1,hcz12_2,hcz12_3,hcz12_4,hcz12_5,hfz12_0,hfz12_1,hfz12_2,hfz12_3,hfz12_4,hfz12_5⟩:=cells6 BK296.out;obtain ⟨Ao13,co13,eo13⟩:=Kd.R_slice HO303.out;subst eo13;obtain ⟨hcz14_0,hcz14_1,hcz14_2,hcz14_3,hcz14_4,hcz14_5,hfz14_0,hfz14_1,hfz14_2,hfz14_3,hfz14_4,hfz14_5⟩:=cells6 BK295.out))
 refine bodyPost_ret (results_cell_row rfl _ _ gb295 50 #[I L a0_0,I L t297,I L t298,I L t299,I L t300,Y Ao13 t301.length co13] (0,0) _ rfl (by exact pP_ BK295.out) Try.underlying50 rfl (by kernel_rfl)) rfl ?_
 exact ⟨_,er_,by (with_reducible repeat (first|apply Kd.R_alloc|apply Kd.R_drewN|apply Kd.R_drew));exact Kd.R_mono (fr_ (fr_ (fr_ (fr_ (fr_ (fr_ (Kd.R_far (p:=⟨gb296,5,none⟩) (Kd.R_far (p:=⟨gb296,4,none⟩) (Kd.R_far (p:=⟨gb296,3,none⟩) (Kd.R_far (p:=⟨gb296,2,none⟩) (Kd.R_far (p:=⟨gb296,1,none⟩) (Kd.R_types (Kd.R_types HO303.out BK296.out (by decide)) BK295.out (by decide)) (fun _ hk=>hk.1.2) (I L t297)) (fun _ hk=>hk.1.2) (I L t298)) (fun _ hk=>hk.1.2) (I L t299)) (fun _ hk=>hk.1.2) (I L t300)) (fun _ hk=>hk.1.2) (Y Ao13 t301.length co13)) 0 (I L a0_0)) 1 (I L t297)) 2 (I L t298)) 3 (I L t299)) 4 (I L t300)) 5 (Y Ao13 t301.length co13)) (fun _ hk=>trivial),pB_ HB.out⟩

/-! ### laws_toBranchS: function 18 -/
def laws_toBranchS.l0 : Nat → List (S66) → List (S50) → Int → Option ((List (S50)))
 | 0, _, _, _ => none
 | k + 1,x0,x3,x4=>if x4 < (x0.length:Int) then (if 0≤x4 then ((laws_toBranch.f k ((rd_T66 x0 x4).f0) ((rd_T66 x0 x4).f1.f0) ((rd_T66 x0 x4).f1.f1.f0) ((rd_T66 x0 x4).f1.f1.f1) ((rd_T66 x0 x4).f1.f1.f2) ((rd_T66 x0 x4).f1.f2)).bind fun bt308=>(if x4 < (x3.length:Int) then (laws_toBranchS.l0 k x0 (x3.set (x4:Int).toNat (⟨bt308.1,(⟨bt308.2.1,(⟨bt308.2.2.1,bt308.2.2.2.1,bt308.2.2.2.2.1⟩:S31),bt308.2.2.2.2.2⟩:S34)⟩:S50)) (wrap64 (x4 + 1))) else (none))) else (none)) else (some x3)
def laws_toBranchS.f (k : Nat) (l0 : List (S66)) : Option ((List (S50))) := if 0 ≤ (l0.length : Int) then (if ((l0.length : Int) : Int).toNat ≤ 4398046511104 then (laws_toBranchS.l0 k l0 (List.replicate ((l0.length : Int) : Int).toNat z50) 0) else (none)) else (none)
set_option maxHeartbeats 8000000 in
set_option maxRecDepth 100000 in
theorem laws_toBranchS.calls (k : Nat) (A0 : Option Addr) (c0 : Nat) (l0 : List (S66)) (r : List (S50)) (w : World) (hr0 : Kd.C k66 w A0 l0.length l0) (hc0 : l0.length ≤ c0) (h : laws_toBranchS.f k l0 = some r) :
  Calls Try.prog 18 #[Y A0 l0.length c0] w fun e w' => ∃ v0_ : Value, e = .returned (v0_) ∧ Kd.S k50 50 w' w.heap.size (fun _ => True) v0_ r ∧ Below w.heap.size w w' := by
 have hu66 := Try.underlying66
 have hu50 := Try.underlying50
 have HR0 := D hr0
 have HC0 := D hc0
 clear hr0 hc0
 have HB := D (Below.refl w.heap.size w)
 have H:(if 0≤(l0.length:Int) then (if ((l0.length:Int):Int).toNat≤4398046511104 then (laws_toBranchS.l0 k l0 (List.replicate ((l0.length:Int):Int).toNat z50) 0) else (none)) else (none))=some r:=h
 clear h
 by_cases c2 : 0 ≤ (l0.length : Int)
 ·rw [if_pos c2] at H
  have c2b0 := eq_true c2; have c2b1 : decide (0 ≤ (l0.length : Int)) = true := decide_eq_true c2; clear c2
  by_cases c3 : ((l0.length : Int) : Int).toNat ≤ 4398046511104
  ·rw [if_pos c3] at H
   have c3b0:=eq_true c3;have c3b1:decide (((l0.length:Int):Int).toNat≤4398046511104)=true:=decide_eq_true c3;clear c3;obtain ⟨y304,hy304⟩:∃ y_:List (S50),y_=(List.replicate ((l0.length:Int):Int).toNat z50):=⟨_,rfl⟩
   replace H:(laws_toBranchS.l0 k l0 y304 0)=some r:=by first|(rw [hy304];with_reducible exact H)|(have H2_:=(Option.bind_some _ _).symm.trans H;rw [hy304];with_reducible exact H2_)|(have H2_:=(Option.bind_some _ _).symm.trans H;with_reducible exact H2_)|with_reducible exact H|(rw [hy304];exact H)|exact H
   have Ny304 := D hy304; clear hy304; have H' := D H; clear H; go_enter Try.func18, Try.ntmps18
   go_wp2_with (first|((with_reducible refine gate_dst (N:=7) rfl ?_);refine Kd.S_make k50 _ 50 rfl (N:=7) rfl 35 _ _ rfl (l0.length:Int) rfl rfl Try.underlying35 (.agg #[(I L 0),(I L 0),(I L 0),(I L 0),(I L 0),(Y none 0 0)]) 64 info50 rfl (by decide) (by omega) z50 (ok:=fun _=>True) (okp:=fun _=>True) (k50_mkM _ _ _ z50 (Kd.R_nil _ _ _ _ _)) (fun _ hk=>hk) trivial (od_ Z60) (Nat.le_trans (Nat.mul_le_mul_right _ (od_ Z60:(l0.length:Int).toNat≤4398046511104)) (by omega)) (Below.refl _ _) (Nat.le_refl _) ?_;intro v305 w4 ho5 hb hg_ hnew_;clear hg_ hnew_;(first|rw [← Ny304.out] at ho5|(simp only [Int.reduceToNat] at ho5;rw [← Ny304.out] at ho5));have n_:=an_ (Kd.S_lower ho5 (below_size (pB_ HB.out)))<|D (below_step (pB_ HB.out) hb);clear HB;obtain ⟨HO306,HB⟩:=n_;clear hb ho5))
   go_loopg [4] k (fun kq v4 w'=>∃ (x3_1:List (S50)) (x4_1:Int),v4=I L x4_1∧Aside0 (laws_toBranchS.l0 kq l0 x3_1 x4_1=some r)∧Aside0 (kq≤k)∧Aside0 (Kd.S k50 50 w' w.heap.size (fun _=>True) v305 x3_1)∧Aside0 (Below w.heap.size w w'))
   case atStart => exact ⟨(y304), (0), Z61, H', ⟨Nat.le_refl _⟩, ⟨pS_ HO306.out⟩, ⟨pB_ HB.out⟩⟩
   case round =>
    clear H'
    try clear c1
    try clear c2
    try clear c2b0
    try clear c2b1
    try clear p2
    try clear c3
    try clear c3b0
    try clear c3b1
    obtain ⟨x3_1, x4_1, rfl, HA, HK1, HO_3, HB⟩ := hrel
    cases gk with
    | zero => exact absurd HA.out (by simp [laws_toBranchS.l0])
    | succ k1 =>
     have H := HA.out; clear HA; simp only [laws_toBranchS.l0] at H
     by_cases c6 : x4_1 < (l0.length : Int)
     ·rw [if_pos c6] at H
      have c6b0 : decide (x4_1 < (l0.length : Int)) = true := decide_eq_true c6; clear c6
      by_cases c7 : 0 ≤ x4_1
      ·rw [if_pos c7] at H
       have c7b0:decide (0≤x4_1)=true:=decide_eq_true c7;clear c7;obtain ⟨⟨t308,t309,t310,t311,t312,t313⟩,A80,H⟩:=bs_.mp H;(try dsimp only at H);have A8:=D A80;clear A80
       by_cases c9 : x4_1 < (x3_1.length : Int)
       ·rw [if_pos c9] at H
        have c9b0:decide (x4_1 < (x3_1.length:Int))=true:=decide_eq_true c9;clear c9;obtain ⟨y316,hy316⟩:∃ y_:List (S50),y_=(x3_1.set (x4_1:Int).toNat (⟨t308,(⟨t309,(⟨t310,t311,t312⟩:S31),t313⟩:S34)⟩:S50)):=⟨_,rfl⟩
        replace H:(laws_toBranchS.l0 k1 l0 y316 (wrap64 (x4_1 + 1)))=some r:=by first|(rw [hy316];with_reducible exact H)|(have H2_:=(Option.bind_some _ _).symm.trans H;rw [hy316];with_reducible exact H2_)|(have H2_:=(Option.bind_some _ _).symm.trans H;with_reducible exact H2_)|with_reducible exact H|(rw [hy316];exact H)|exact H
        have Ny316:=D hy316;clear hy316;have H':=D H;clear H;have p307:0≤(x4_1:Int):=od_ Z60;have q307:x4_1 < (l0.length:Int):=od_ Z60;obtain ⟨ad307,A307_5,c307_5,e307,hx307_0,hx307_1,hx307_2,hx307_3,hx307_4,hx307_5,hl307_5,hi307_5⟩:=at_T66 HR0.out x4_1 p307 q307;cases e307;replace hx307_0:=rc_ HB.out hx307_0;replace hx307_1:=rc_ HB.out hx307_1;replace hx307_2:=rc_ HB.out hx307_2;replace hx307_3:=rc_ HB.out hx307_3;replace hx307_4:=rc_ HB.out hx307_4;replace hx307_5:=rc_ HB.out hx307_5;have HR307_5:=D hi307_5;have HC307_5:=D hl307_5;clear hi307_5 hl307_5;replace p307:=eq_true p307;replace q307:=eq_true q307
        go_wp2_with (first|((with_reducible refine gate_callee (f:=37) rfl ?_);refine goesL_ (some 20) rfl rfl Try.func37 (by kernel_rfl) rfl #[.agg #[I L ((rd_T66 l0 x4_1).f0),I L ((rd_T66 l0 x4_1).f1.f0),I L ((rd_T66 l0 x4_1).f1.f1.f0),I L ((rd_T66 l0 x4_1).f1.f1.f1),I L ((rd_T66 l0 x4_1).f1.f1.f2),Y A307_5 ((rd_T66 l0 x4_1).f1.f2).length c307_5]] rfl Z13 ?_;(with_reducible refine (laws_toBranch.calls k1 ((rd_T66 l0 x4_1).f0) ((rd_T66 l0 x4_1).f1.f0) ((rd_T66 l0 x4_1).f1.f1.f0) ((rd_T66 l0 x4_1).f1.f1.f1) ((rd_T66 l0 x4_1).f1.f1.f2) _ _ ((rd_T66 l0 x4_1).f1.f2) t308 t309 t310 t311 t312 t313 _ ?side1 ?side2 A8.out).mono ?_);(case side1=>exact pC_ (Kd.C_below HR307_5.out HB.out));(case side2=>exact HC307_5.out);rintro e w11 ⟨v314,rfl,ho0,hb⟩;refine ⟨_,rfl,?_⟩;have n_:=an_ (Kd.S_elder' (pS_ HO_3.out) (Kd.R_base ho0) hb)<|an_ (Kd.R_lower ho0 (below_size (pB_ HB.out)))<|D (below_step (pB_ HB.out) hb);clear HO_3 HB;obtain ⟨HO_3,HO315,HB⟩:=n_;(try clear hb);(try clear ho0);have p10:0≤(x4_1:Int):=od_ Z60;have q10:(x4_1:Int) < ((x3_1.length:Int):Int):=od_ Z60;obtain ⟨go10,co10,eo10,gb10,gl10,cl10,HG10⟩:=Kd.S_form HO_3.out (by omega);(first|cases eo10|(injection eo10 with ea_ en_ ec_;(first|subst ea_|(injection ea_ with ea_;subst ea_));subst ec_;clear en_));have GB10:=D gb10;have GG10:=D HG10;clear gb10 gl10 HG10;obtain ⟨_,ce10,hcl10,hM10,hcc10,hfr10,_,_⟩:=Kd.S_elem HO_3.out z50 (x4_1:Int) p10 q10;obtain ⟨ve10_5,rfl,ge10_5⟩:=k50_openM hM10;have hx10_0:w11.cell? ⟨go10,(x4_1:Int).toNat * 6,none⟩=some (I L ((rd_T50 x3_1 x4_1).f0)):=hcc10 0 _ rfl;have hx10_1:w11.cell? ⟨go10,(x4_1:Int).toNat * 6 + 1,none⟩=some (I L ((rd_T50 x3_1 x4_1).f1.f0)):=hcc10 1 _ rfl;have hx10_2:w11.cell? ⟨go10,(x4_1:Int).toNat * 6 + 2,none⟩=some (I L ((rd_T50 x3_1 x4_1).f1.f1.f0)):=hcc10 2 _ rfl;have hx10_3:w11.cell? ⟨go10,(x4_1:Int).toNat * 6 + 3,none⟩=some (I L ((rd_T50 x3_1 x4_1).f1.f1.f1)):=hcc10 3 _ rfl;have hx10_4:w11.cell? ⟨go10,(x4_1:Int).toNat * 6 + 4,none⟩=some (I L ((rd_T50 x3_1 x4_1).f1.f1.f2)):=hcc10 4 _ rfl;have hx10_5:w11.cell? ⟨go10,(x4_1:Int).toNat * 6 + 5,none⟩=some (ve10_5):=hcc10 5 _ rfl;have hf10_0:w11.frozen? ⟨go10,(x4_1:Int).toNat * 6,none⟩=false:=hfr10 0;have hf10_1:w11.frozen? ⟨go10,(x4_1:Int).toNat * 6 + 1,none⟩=false:=hfr10 1;have hf10_2:w11.frozen? ⟨go10,(x4_1:Int).toNat * 6 + 2,none⟩=false:=hfr10 2;have hf10_3:w11.frozen? ⟨go10,(x4_1:Int).toNat * 6 + 3,none⟩=false:=hfr10 3;have hf10_4:w11.frozen? ⟨go10,(x4_1:Int).toNat * 6 + 4,none⟩=false:=hfr10 4;have hf10_5:w11.frozen? ⟨go10,(x4_1:Int).toNat * 6 + 5,none⟩=false:=hfr10 5;clear hcl10 hcc10 hfr10 hM10;replace p10:=eq_true p10;replace q10:=eq_true q10;have n_:=D (Kd.S_mono (ok':=(fun k_=>some k_≠(v314:Value).ownBlock)) HO_3.out (fun k_ hk=>hk.2));clear HO_3;have HO_3:=n_;clear n_;have HX12:=D (show Kd.S k50 50 w11 w.heap.size (fun k_=>((fun _=>True)) k_∧¬ ((fun k_=>some k_=(v314:Value).ownBlock)) k_) (Y (some ⟨go10,0,none⟩) x3_1.length co10) x3_1 from (pS_ (Kd.S_mono HO_3.out (fun k_ hk=>⟨trivial,fun e_=>hk e_⟩))));obtain ⟨oki12,ce12,hcl12,hM12,hcc12,hfr12,hoki12,hH12⟩:=Kd.S_elem HX12.out z50 (x4_1:Int) (od_ Z60) (by have h_:(x4_1:Int) < ((x3_1.length:Int):Int):=od_ Z60;first|exact h_|(have e_:=(Kd.S_reads' HO_3.out).1;omega)|simpa using h_);obtain ⟨ve12_5,rfl,ge12_5⟩:=k50_openM hM12;have HP12:=Kd.S_seg hH12 (od_ Z60) (by have h_:(x4_1:Int) < ((x3_1.length:Int):Int):=od_ Z60;first|exact h_|(have e_:=(Kd.S_reads' HO_3.out).1;omega)|simpa using h_) (seg:=[I L t308,I L t309,I L t310,I L t311,I L t312,v314]) (j:=0) (show 6≤6 from by decide) (x':=(⟨t308,(⟨t309,(⟨t310,t311,t312⟩:S31),t313⟩:S34)⟩:S50)) (k50_mkM _ _ _ (⟨t308,(⟨t309,(⟨t310,t311,t312⟩:S31),t313⟩:S34)⟩:S50) (Kd.R_mono (Kd.R_tight rfl (Kd.R_mono (ok':=fun k_=>((fun _=>True)) k_∧k_≠go10) (Kd.R_apart' (HO315.out) (Kd.S_typed HO_3.out) (by decide)) (fun k_ hk=>⟨trivial,fun e_=>(hk.2) (by rw [e_];rfl)⟩))) (fun _ h_=>Or.inr (h_)))) (fun _ hk=>hk) (fun k_ hk_=>((Kd.R_mono (ok':=fun k_=>((fun _=>True)) k_∧k_≠go10) (Kd.R_apart' (HO315.out) (Kd.S_typed HO_3.out) (by decide)) (fun k_ hk=>⟨trivial,fun e_=>(hk.2) (by rw [e_];rfl)⟩))).1 k_ hk_.symm);have hx12_0:=hcc12 0 _ rfl;(try simp only [show (k50).sz=6 from rfl,Nat.mul_one,Nat.add_zero] at hx12_0);have hf12_0:=hfr12 0;(try simp only [show (k50).sz=6 from rfl,Nat.mul_one,Nat.add_zero] at hf12_0);have hx12_1:=hcc12 1 _ rfl;(try simp only [show (k50).sz=6 from rfl,Nat.mul_one,Nat.add_zero] at hx12_1);have hf12_1:=hfr12 1;(try simp only [show (k50).sz=6 from rfl,Nat.mul_one,Nat.add_zero] at hf12_1);have hx12_2:=hcc12 2 _ rfl;(try simp only [show (k50).sz=6 from rfl,Nat.mul_one,Nat.add_zero] at hx12_2);have hf12_2:=hfr12 2;(try simp only [show (k50).sz=6 from rfl,Nat.mul_one,Nat.add_zero] at hf12_2);have hx12_3:=hcc12 3 _ rfl;(try simp only [show (k50).sz=6 from rfl,Nat.mul_one,Nat.add_zero] at hx12_3);have hf12_3:=hfr12 3;(try simp only [show (k50).sz=6 from rfl,Nat.mul_one,Nat.add_zero] at hf12_3);have hx12_4:=hcc12 4 _ rfl;(try simp only [show (k50).sz=6 from rfl,Nat.mul_one,Nat.add_zero] at hx12_4);have hf12_4:=hfr12 4;(try simp only [show (k50).sz=6 from rfl,Nat.mul_one,Nat.add_zero] at hf12_4);have hx12_5:=hcc12 5 _ rfl;(try simp only [show (k50).sz=6 from rfl,Nat.mul_one,Nat.add_zero] at hx12_5);have hf12_5:=hfr12 5;(try simp only [show (k50).sz=6 from rfl,Nat.mul_one,Nat.add_zero] at hf12_5);clear hcl12 hcc12 hfr12 hM12 hoki12 hH12)|((with_reducible refine gate_store (t:=50) (p:=21) rfl ?_);refine store_event (t:=50) (p:=21) (v:=?vo_w13) (w1:=((((((w11.setCell ⟨go10,(x4_1:Int).toNat * 6,none⟩ (I L t308)).setCell ⟨go10,(x4_1:Int).toNat * 6 + 1,none⟩ (I L t309)).setCell ⟨go10,(x4_1:Int).toNat * 6 + 2,none⟩ (I L t310)).setCell ⟨go10,(x4_1:Int).toNat * 6 + 3,none⟩ (I L t311)).setCell ⟨go10,(x4_1:Int).toNat * 6 + 4,none⟩ (I L t312)).setCell ⟨go10,(x4_1:Int).toNat * 6 + 5,none⟩ (v314))) ?hg ?ho ?hn ?hr ?_;(case ho=>rfl);(case hg=>rfl);(case hn=>rfl);(case hr=>first|(go_simp;done)|(go_simp;rfl)|(obtain ⟨_,_,e_⟩:=Kd.R_slice HO315.out;subst e_;first|(go_simp;done)|(go_simp;rfl)));intro w13 hw;have hg:w11.grownBy w13 (some go10):=Z63;have hp_:Kd.S k50 50 w13 w.heap.size (fun _=>True) (Y (some ⟨go10,0,none⟩) x3_1.length co10) y316:=(by rw [hw,Ny316.out];exact HP12.1);clear HP12;have n_:=an_ (hp_)<|D (by rw [hw];exact below_set (below_set (below_set (below_set (below_set (below_set (HB.out) GB10.out) GB10.out) GB10.out) GB10.out) GB10.out) GB10.out:Below w.heap.size w w13);clear HO_3 HB HO315;obtain ⟨HO_3,HB⟩:=n_;clear hg hw hp_))
        go_roundg k1
        case measure => have := HK1.out; omega
        case rel => exact ⟨(y316), (wrap64 (x4_1 + 1)), Z61, H', ⟨by have := HK1.out; omega⟩, ⟨pS_ HO_3.out⟩, ⟨pB_ HB.out⟩⟩
       ·rw [if_neg c9] at H
        exact absurd H (by simp)
      ·rw [if_neg c7] at H
       exact absurd H (by simp)
     ·rw [if_neg c6] at H
      have c6b0 : decide (x4_1 < (l0.length : Int)) = false := decide_eq_false c6; clear c6; obtain rfl := Option.some.inj H
      go_wp2
      go_ret;exact ⟨_,er_,by (with_reducible repeat (first|apply Kd.S_alloc|apply Kd.S_drewN|apply Kd.S_drew));exact HO_3.out,pB_ HB.out⟩
  ·rw [if_neg c3] at H
   exact absurd H (by simp)
 ·rw [if_neg c2] at H
  exact absurd H (by simp)

/-! ### laws_toTree: function 6 -/
def laws_toTree.f (k : Nat) (a0_0 a0_1 a0_2 a0_3 : Int) (l0_4 : List (S86)) (l0_5 : List (S66)) : Option (Int × Int × Int × Int × (List (S52)) × (List (S50))) := (laws_toFair.f k a0_0 a0_1 a0_2 a0_3 l0_4).bind fun bt320 => ((laws_toBranchS.f k l0_5).bind fun t327 => (some (bt320.1, bt320.2.1, bt320.2.2.1, bt320.2.2.2.1, bt320.2.2.2.2, t327)))
set_option maxHeartbeats 8000000 in
set_option maxRecDepth 100000 in
theorem laws_toTree.calls (k : Nat) (a0_0 a0_1 a0_2 a0_3 : Int) (A0_4 : Option Addr) (c0_4 : Nat) (l0_4 : List (S86)) (A0_5 : Option Addr) (c0_5 : Nat) (l0_5 : List (S66)) (r1 r2 r3 r4 : Int) (r5 : List (S52)) (r6 : List (S50)) (w : World) (hr0_4 : Kd.C k86 w A0_4 l0_4.length l0_4) (hc0_4 : l0_4.length ≤ c0_4) (hr0_5 : Kd.C k66 w A0_5 l0_5.length l0_5) (hc0_5 : l0_5.length ≤ c0_5) (h : laws_toTree.f k a0_0 a0_1 a0_2 a0_3 l0_4 l0_5 = some (r1, r2, r3, r4, r5, r6)) :
  Calls Try.prog 6 #[.agg #[I L a0_0,I L a0_1,I L a0_2,I L a0_3,Y A0_4 l0_4.length c0_4,Y A0_5 l0_5.length c0_5]] w fun e w'=>∃ v4_ v5_:Value,e=.returned (.agg #[I L r1,I L r2,I L r3,I L r4,v4_,v5_])∧Kd.R k52 52 w' w.heap.size (fun _=>True) v4_ r5∧Kd.S k50 50 w' w.heap.size (fun k_=>some k_≠(v4_:Value).ownBlock) v5_ r6∧Below w.heap.size w w':=by
 have hu29 := Try.underlying29
 have hu37 := Try.underlying37
 have hu26 := Try.underlying26
 have hu34 := Try.underlying34
 have HR0_4 := D hr0_4
 have HC0_4 := D hc0_4
 clear hr0_4 hc0_4
 have HR0_5 := D hr0_5
 have HC0_5 := D hc0_5
 clear hr0_5 hc0_5
 have HB := D (Below.refl w.heap.size w)
 have H:((laws_toFair.f k a0_0 a0_1 a0_2 a0_3 l0_4).bind fun bt320=>((laws_toBranchS.f k l0_5).bind fun t327=>(some (bt320.1,bt320.2.1,bt320.2.2.1,bt320.2.2.2.1,bt320.2.2.2.2,t327))))=some (r1,r2,r3,r4,r5,r6):=h
 clear h
 obtain ⟨⟨t320, t321, t322, t323, t324⟩, A20, H⟩ := bs_.mp H
 (try dsimp only at H)
 have A2 := D A20
 clear A20
 obtain ⟨t327, A30, H⟩ := bs_.mp H
 (try dsimp only at H)
 have A3 := D A30
 clear A30
 simp only [Option.some.injEq, Prod.mk.injEq] at H
 obtain ⟨rfl, rfl, rfl, rfl, rfl, rfl⟩ := H
 go_enter Try.func6, Try.ntmps6
 go_wp2_with (first|((with_reducible refine gate_dst (N:=1) rfl ?_);refine bx_ (N:=1) (cs:=#[I L a0_0,I L a0_1,I L a0_2,I L a0_3,Y A0_4 l0_4.length c0_4,Y A0_5 l0_5.length c0_5]) (t:=29) ?_;intro gb317 hg w4 hbox hb;have n_:=an_ (below_step (pB_ HB.out) hb)<|an_ (hbox)<|an_ (bg_ hg (pB_ HB.out):w.heap.size≤gb317)<|D (bg_ hg (pB_ HB.out):w.heap.size≤gb317);clear HB;obtain ⟨HB,BK317,GW317,GE317⟩:=n_;clear hb hbox hg)|((with_reducible refine gate_dst (N:=2) rfl ?_);refine bx_ (N:=2) (cs:=#[I L 0,I L 0,I L 0,I L 0,Y none 0 0,Y none 0 0]) (t:=37) ?_;intro gb318 hg w5 hbox hb;have n_:=an_ (blk_below (pk_ BK317.out) hb)<|an_ (below_step (pB_ HB.out) hb)<|an_ (hbox)<|an_ (bg_ hg (pB_ HB.out):w.heap.size≤gb318)<|an_ (bg_ hg (pB_ HB.out):w.heap.size≤gb318)<|an_ ((by rw [hg];exact Nat.ne_of_lt (blk_lt (pk_ BK317.out)):gb317≠gb318))<|D (by rw [hg];exact Nat.ne_of_gt (blk_lt (pk_ BK317.out)):gb318≠gb317);clear BK317 HB;obtain ⟨BK317,HB,BK318,GW318,GE318,NB317_318,NB318_317⟩:=n_;clear hb hbox hg)|((with_reducible refine gate_dst (N:=3) rfl ?_);refine bx_ (N:=3) (cs:=#[I L 0,I L 0,I L 0,I L 0,Y none 0 0,Y none 0 0]) (t:=37) ?_;intro gb319 hg w6 hbox hb;have n_:=an_ (blk_below (pk_ BK317.out) hb)<|an_ (blk_below (pk_ BK318.out) hb)<|an_ (below_step (pB_ HB.out) hb)<|an_ (hbox)<|an_ (bg_ hg (pB_ HB.out):w.heap.size≤gb319)<|an_ (bg_ hg (pB_ HB.out):w.heap.size≤gb319)<|an_ ((by rw [hg];exact Nat.ne_of_lt (blk_lt (pk_ BK317.out)):gb317≠gb319))<|an_ ((by rw [hg];exact Nat.ne_of_gt (blk_lt (pk_ BK317.out)):gb319≠gb317))<|an_ ((by rw [hg];exact Nat.ne_of_lt (blk_lt (pk_ BK318.out)):gb318≠gb319))<|D (by rw [hg];exact Nat.ne_of_gt (blk_lt (pk_ BK318.out)):gb319≠gb318);clear BK317 BK318 HB;obtain ⟨BK317,BK318,HB,BK319,GW319,GE319,NB317_319,NB319_317,NB318_319,NB319_318⟩:=n_;clear hb hbox hg;(try have hnb7:=NB317_318.out);(try have hnc7:=NB318_317.out);(try have hnb8:=NB317_319.out);(try have hnc8:=NB319_317.out);obtain ⟨hcz9_0,hcz9_1,hcz9_2,hcz9_3,hcz9_4,hcz9_5,hfz9_0,hfz9_1,hfz9_2,hfz9_3,hfz9_4,hfz9_5⟩:=cells6 BK317.out)|((with_reducible refine gate_callee (f:=17) rfl ?_);refine goesL_ (some 6) rfl rfl Try.func17 (by kernel_rfl) rfl #[.agg #[I L a0_0,I L a0_1,I L a0_2,I L a0_3,Y A0_4 l0_4.length c0_4]] rfl Z13 ?_;(with_reducible refine (laws_toFair.calls k a0_0 a0_1 a0_2 a0_3 _ _ l0_4 t320 t321 t322 t323 t324 _ ?side1 ?side2 A2.out).mono ?_);(case side1=>exact pC_ (Kd.C_below HR0_4.out HB.out));(case side2=>exact HC0_4.out);rintro e w10 ⟨v325,rfl,ho0,hb⟩;refine ⟨_,rfl,?_⟩;have n_:=an_ (Kd.R_lower ho0 (below_size (pB_ HB.out)))<|an_ (blk_below (pk_ BK317.out) hb)<|an_ (blk_below (pk_ BK318.out) hb)<|an_ (blk_below (pk_ BK319.out) hb)<|D (below_step (pB_ HB.out) hb);clear BK317 BK318 BK319 HB;obtain ⟨HO326,BK317,BK318,BK319,HB⟩:=n_;(try clear hb);(try clear ho0);(try have hnb11:=NB319_318.out);(try have hnc11:=NB318_319.out);obtain ⟨hcz12_0,hcz12_1,hcz12_2,hcz12_3,hcz12_4,hcz12_5,hfz12_0,hfz12_1,hfz12_2,hfz12_3,hfz12_4,hfz12_5⟩:=cells6 BK319.out;obtain ⟨Ao13,co13,eo13⟩:=Kd.R_slice HO326.out;subst eo13;obtain ⟨hcz14_0,hcz14_1,hcz14_2,hcz14_3,hcz14_4,hcz14_5,hfz14_0,hfz14_1,hfz14_2,hfz14_3,hfz14_4,hfz14_5⟩:=cells6 BK317.out)|((with_reducible refine gate_callee (f:=18) rfl ?_);refine goesL_ (some 10) rfl rfl Try.func18 (by kernel_rfl) rfl #[Y A0_5 l0_5.length c0_5] rfl Z13 ?_;(with_reducible refine (laws_toBranchS.calls k _ _ l0_5 t327 _ ?side1 ?side2 A3.out).mono ?_);(case side1=>exact Kd.C_below HR0_5.out (pB_ HB.out));(case side2=>exact HC0_5.out);rintro e w15 ⟨v328,rfl,ho0,hb⟩;refine ⟨_,rfl,?_⟩;have n_:=an_ (Kd.R_below (rM_ (Kd.R_types HO326.out BK319.out (by decide)) (fun _ h_=>h_.1)) hb)<|an_ (Kd.S_lower (Kd.S_new' ho0 (Kd.R_lt (rM_ (Kd.R_types HO326.out BK319.out (by decide)) (fun _ h_=>h_.1)))) (below_size (pB_ HB.out)))<|an_ (blk_below (g:=gb317) (o:=.cells #[I L a0_0,I L a0_1,I L a0_2,I L a0_3,Y A0_4 l0_4.length c0_4,Y A0_5 l0_5.length c0_5] 29 (0,0)) (by exact pP_ BK317.out) hb)<|an_ (blk_below (g:=gb318) (o:=.cells #[I L 0,I L 0,I L 0,I L 0,Y none 0 0,Y none 0 0] 37 (0,0)) (by exact pP_ BK318.out) hb)<|an_ (blk_below (g:=gb319) (o:=.cells #[I L t320,I L t321,I L t322,I L t323,Y Ao13 t324.length co13,Y none 0 0] 37 (0,0)) (by exact pP_ BK319.out) hb)<|D (below_step (pB_ HB.out) hb);clear HO326 BK317 BK318 BK319 HB;obtain ⟨HO326,HO329,BK317,BK318,BK319,HB⟩:=n_;(try clear hb);(try clear ho0);obtain ⟨Ao16,co16,eo16⟩:=Kd.S_slice HO329.out;subst eo16;obtain ⟨hcz17_0,hcz17_1,hcz17_2,hcz17_3,hcz17_4,hcz17_5,hfz17_0,hfz17_1,hfz17_2,hfz17_3,hfz17_4,hfz17_5⟩:=cells6 BK319.out;obtain ⟨hcz18_0,hcz18_1,hcz18_2,hcz18_3,hcz18_4,hcz18_5,hfz18_0,hfz18_1,hfz18_2,hfz18_3,hfz18_4,hfz18_5⟩:=cells6 BK318.out))
 refine bodyPost_ret (results_cell_row rfl _ _ gb318 37 #[I L t320,I L t321,I L t322,I L t323,Y Ao13 t324.length co13,Y Ao16 t327.length co16] (0,0) _ rfl (by exact pP_ BK318.out) Try.underlying37 rfl (by kernel_rfl)) rfl ?_
 exact ⟨_,_,er_,by (with_reducible repeat (first|apply Kd.R_alloc|apply Kd.R_drewN|apply Kd.R_drew));exact Kd.R_mono (fr_ (fr_ (fr_ (fr_ (fr_ (fr_ (Kd.R_far (p:=⟨gb319,5,none⟩) (Kd.R_types (Kd.R_types HO326.out BK319.out (by decide)) BK318.out (by decide)) (fun _ hk=>hk.1.2) (Y Ao16 t327.length co16)) 0 (I L t320)) 1 (I L t321)) 2 (I L t322)) 3 (I L t323)) 4 (Y Ao13 t324.length co13)) 5 (Y Ao16 t327.length co16)) (fun _ hk=>trivial),by (with_reducible repeat (first|apply Kd.S_alloc|apply Kd.S_drewN|apply Kd.S_drew));exact Kd.S_mono (Kd.S_far (p:=⟨gb318,5,none⟩) (Kd.S_far (p:=⟨gb318,4,none⟩) (Kd.S_far (p:=⟨gb318,3,none⟩) (Kd.S_far (p:=⟨gb318,2,none⟩) (Kd.S_far (p:=⟨gb318,1,none⟩) (Kd.S_far (p:=⟨gb318,0,none⟩) (Kd.S_far (p:=⟨gb319,5,none⟩) (Kd.S_types (Kd.S_types HO329.out BK319.out (by decide)) BK318.out (by decide)) (fun _ hk=>hk.1.2) (Y Ao16 t327.length co16)) (fun _ hk=>hk.2) (I L t320)) (fun _ hk=>hk.2) (I L t321)) (fun _ hk=>hk.2) (I L t322)) (fun _ hk=>hk.2) (I L t323)) (fun _ hk=>hk.2) (Y Ao13 t324.length co13)) (fun _ hk=>hk.2) (Y Ao16 t327.length co16)) (fun _ hk=>hk.1.1.2),pB_ HB.out⟩

/-! ### impl_VecTop: function 57 -/
def impl_VecTop.f (a0_0 a0_1 a0_2 : Int) : Option (Int) := some (mx (mx a0_0 a0_1) a0_2)
set_option maxHeartbeats 8000000 in
set_option maxRecDepth 100000 in
theorem impl_VecTop.calls (a0_0 a0_1 a0_2 r : Int) (w : World) (h : impl_VecTop.f a0_0 a0_1 a0_2 = some r) :
  Calls Try.prog 57 #[.agg #[I L a0_0, I L a0_1, I L a0_2]] w fun e w' => e = .returned (I L r) ∧ Below w.heap.size w w' := by
 have hu31 := Try.underlying31
 have HB := D (Below.refl w.heap.size w)
 have H : (some (mx (mx a0_0 a0_1) a0_2)) = some r := h
 clear h
 obtain ⟨ji2, hji2⟩ : ∃ j_ : Int, (mx a0_0 a0_1) = j_ := ⟨_, rfl⟩
 replace H : (some (mx (ji2) a0_2)) = some r := by first | (rw [hji2] at H; exact H) | (simp only [hji2] at H ⊢; exact H)
 have hji2_ : (if a0_0 < a0_1 then a0_1 else a0_0) = ji2 := hji2
 obtain ⟨ji3, hji3⟩ : ∃ j_ : Int, (mx (ji2) a0_2) = j_ := ⟨_, rfl⟩
 replace H : (some ji3) = some r := by first | (rw [hji3] at H; exact H) | (simp only [hji3] at H ⊢; exact H)
 have hji3_ : (if (ji2) < a0_2 then a0_2 else (ji2)) = ji3 := hji3
 obtain rfl := Option.some.inj H
 go_enter Try.func57, Try.ntmps57
 go_wp2_with (first|((with_reducible refine gate_dst (N:=1) rfl ?_);refine bx_ (N:=1) (cs:=#[I L a0_0,I L a0_1,I L a0_2]) (t:=31) ?_;intro gb330 hg w4 hbox hb;have n_:=an_ (below_step (pB_ HB.out) hb)<|an_ (hbox)<|an_ (bg_ hg (pB_ HB.out):w.heap.size≤gb330)<|D (bg_ hg (pB_ HB.out):w.heap.size≤gb330);clear HB;obtain ⟨HB,BK330,GW330,GE330⟩:=n_;clear hb hbox hg;obtain ⟨hcz5_0,hcz5_1,hcz5_2,hfz5_0,hfz5_1,hfz5_2⟩:=cells3 BK330.out))
 go_ret
 exact ⟨by first|rfl|(simp [errW_none,errW_some] <;> rfl)|(simp only [← hji2,← hji3];first|rfl|(simp [errW_none,errW_some] <;> rfl))|(simp [*,errW_none,errW_some] <;> rfl),pB_ HB.out⟩

/-! ### impl_within: function 73 -/
def impl_within.f (a0 a1 a2 : Int) : Option (Bool) := if a0 ≥ a1 then (some (decide (a0 ≤ a2))) else (some false)
set_option maxHeartbeats 8000000 in
set_option maxRecDepth 100000 in
theorem impl_within.calls (a0 a1 a2 : Int) (r : Bool) (w : World) (h : impl_within.f a0 a1 a2 = some r) :
  Calls Try.prog 73 #[I L a0, I L a1, I L a2] w fun e w' => e = .returned (.bool r) ∧ Drawn0 w w' := by
 have H : (if a0 ≥ a1 then (some (decide (a0 ≤ a2))) else (some false)) = some r := h
 clear h
 by_cases c4 : a0 ≥ a1
 ·rw [if_pos c4] at H
  have c4b0 : decide (a1 ≤ a0) = true := decide_eq_true c4; clear c4; obtain rfl := Option.some.inj H; go_enter Try.func73, Try.ntmps73
  go_wp2
  go_ret; exact ⟨by first | rfl | (simp; done) | (simp [*]; done), by repeat (first | exact Drawn0.refl _ | apply Drawn0.step)⟩
 ·rw [if_neg c4] at H
  have c4b0 : decide (a1 ≤ a0) = false := decide_eq_false c4; clear c4; obtain rfl := Option.some.inj H; go_enter Try.func73, Try.ntmps73
  go_wp2
  go_ret; exact ⟨by first | rfl | (simp; done) | (simp [*]; done), by repeat (first | exact Drawn0.refl _ | apply Drawn0.step)⟩

/-! ### impl_Vec_isFrom: function 68 -/
def impl_Vec_isFrom.f (a0_0 a0_1 a0_2 a1 a2 : Int) : Option (Bool) := (impl_within.f a0_0 a1 a2).bind fun t332 => (if t332 = true then ((impl_within.f a0_1 a1 a2).bind fun t333 => (if t333 = true then ((impl_within.f a0_2 a1 a2).bind fun t334 => (some t334)) else (some false))) else (some false))
set_option maxHeartbeats 8000000 in
set_option maxRecDepth 100000 in
theorem impl_Vec_isFrom.calls (a0_0 a0_1 a0_2 a1 a2 : Int) (r : Bool) (w : World) (h : impl_Vec_isFrom.f a0_0 a0_1 a0_2 a1 a2 = some r) :
  Calls Try.prog 68 #[.agg #[I L a0_0, I L a0_1, I L a0_2], I L a1, I L a2] w fun e w' => e = .returned (.bool r) ∧ Below w.heap.size w w' := by
 have hu31 := Try.underlying31
 have HB := D (Below.refl w.heap.size w)
 have H:((impl_within.f a0_0 a1 a2).bind fun t332=>(if t332=true then ((impl_within.f a0_1 a1 a2).bind fun t333=>(if t333=true then ((impl_within.f a0_2 a1 a2).bind fun t334=>(some t334)) else (some false))) else (some false)))=some r:=h
 clear h
 obtain ⟨t332, A40, H⟩ := bs_.mp H
 (try dsimp only at H)
 have A4 := D A40
 clear A40
 by_cases c5 : t332 = true
 ·subst c5
  rw [if_pos rfl] at H; obtain ⟨t333, A60, H⟩ := bs_.mp H; (try dsimp only at H); have A6 := D A60; clear A60
  by_cases c7 : t333 = true
  ·subst c7
   rw [if_pos rfl] at H;obtain ⟨t334,A80,H⟩:=bs_.mp H;(try dsimp only at H);have A8:=D A80;clear A80;obtain rfl:=Option.some.inj H;go_enter Try.func68,Try.ntmps68
   go_wp2_with (first|((with_reducible refine gate_dst (N:=3) rfl ?_);refine bx_ (N:=3) (cs:=#[I L a0_0,I L a0_1,I L a0_2]) (t:=31) ?_;intro gb331 hg w9 hbox hb;have n_:=an_ (below_step (pB_ HB.out) hb)<|an_ (hbox)<|an_ (bg_ hg (pB_ HB.out):w.heap.size≤gb331)<|D (bg_ hg (pB_ HB.out):w.heap.size≤gb331);clear HB;obtain ⟨HB,BK331,GW331,GE331⟩:=n_;clear hb hbox hg;obtain ⟨hcz10_0,hcz10_1,hcz10_2,hfz10_0,hfz10_1,hfz10_2⟩:=cells3 BK331.out)|((with_reducible refine gate_callee (f:=73) rfl ?_);refine goesL_ (some 11) rfl rfl Try.func73 (by kernel_rfl) rfl #[I L a0_0,I L a1,I L a2] rfl Z13 ?_;(with_reducible refine (impl_within.calls a0_0 a1 a2 true _ A4.out).mono ?_);rintro e w' ⟨rfl,⟨nd,rfl⟩⟩;refine ⟨_,rfl,?_⟩)|(go_at_call 73;(with_reducible refine (impl_within.calls a0_1 a1 a2 true _ A6.out).mono ?_);rintro e w' ⟨rfl,⟨nd,rfl⟩⟩)|(go_at_call 73;(with_reducible refine (impl_within.calls a0_2 a1 a2 t334 _ A8.out).mono ?_);rintro e w' ⟨rfl,⟨nd,rfl⟩⟩))
   go_ret; exact ⟨er_, pB_ HB.out⟩
  ·replace c7 := Bool.eq_false_iff.mpr c7
   subst c7; rw [if_neg (show ¬ (false = true) by decide)] at H; obtain rfl := Option.some.inj H; go_enter Try.func68, Try.ntmps68
   go_wp2_with (first|((with_reducible refine gate_dst (N:=3) rfl ?_);refine bx_ (N:=3) (cs:=#[I L a0_0,I L a0_1,I L a0_2]) (t:=31) ?_;intro gb331 hg w11 hbox hb;have n_:=an_ (below_step (pB_ HB.out) hb)<|an_ (hbox)<|an_ (bg_ hg (pB_ HB.out):w.heap.size≤gb331)<|D (bg_ hg (pB_ HB.out):w.heap.size≤gb331);clear HB;obtain ⟨HB,BK331,GW331,GE331⟩:=n_;clear hb hbox hg;obtain ⟨hcz12_0,hcz12_1,hcz12_2,hfz12_0,hfz12_1,hfz12_2⟩:=cells3 BK331.out)|((with_reducible refine gate_callee (f:=73) rfl ?_);refine goesL_ (some 11) rfl rfl Try.func73 (by kernel_rfl) rfl #[I L a0_0,I L a1,I L a2] rfl Z13 ?_;(with_reducible refine (impl_within.calls a0_0 a1 a2 true _ A4.out).mono ?_);rintro e w' ⟨rfl,⟨nd,rfl⟩⟩;refine ⟨_,rfl,?_⟩)|(go_at_call 73;(with_reducible refine (impl_within.calls a0_1 a1 a2 false _ A6.out).mono ?_);rintro e w' ⟨rfl,⟨nd,rfl⟩⟩))
   go_ret; exact ⟨er_, pB_ HB.out⟩
 ·replace c5 := Bool.eq_false_iff.mpr c5
  subst c5; rw [if_neg (show ¬ (false = true) by decide)] at H; obtain rfl := Option.some.inj H; go_enter Try.func68, Try.ntmps68
  go_wp2_with (first|((with_reducible refine gate_dst (N:=3) rfl ?_);refine bx_ (N:=3) (cs:=#[I L a0_0,I L a0_1,I L a0_2]) (t:=31) ?_;intro gb331 hg w13 hbox hb;have n_:=an_ (below_step (pB_ HB.out) hb)<|an_ (hbox)<|an_ (bg_ hg (pB_ HB.out):w.heap.size≤gb331)<|D (bg_ hg (pB_ HB.out):w.heap.size≤gb331);clear HB;obtain ⟨HB,BK331,GW331,GE331⟩:=n_;clear hb hbox hg;obtain ⟨hcz14_0,hcz14_1,hcz14_2,hfz14_0,hfz14_1,hfz14_2⟩:=cells3 BK331.out)|((with_reducible refine gate_callee (f:=73) rfl ?_);refine goesL_ (some 11) rfl rfl Try.func73 (by kernel_rfl) rfl #[I L a0_0,I L a1,I L a2] rfl Z13 ?_;(with_reducible refine (impl_within.calls a0_0 a1 a2 false _ A4.out).mono ?_);rintro e w' ⟨rfl,⟨nd,rfl⟩⟩;refine ⟨_,rfl,?_⟩))
  go_ret; exact ⟨er_, pB_ HB.out⟩

/-! ### impl_TagOk: function 66 -/
def impl_TagOk.f (a0_0 a0_1 a0_2 : Int) : Option (Bool) := (impl_Vec_isFrom.f a0_0 a0_1 a0_2 0 1000000000000).bind fun t336 => (some t336)
set_option maxHeartbeats 8000000 in
set_option maxRecDepth 100000 in
theorem impl_TagOk.calls (a0_0 a0_1 a0_2 : Int) (r : Bool) (w : World) (h : impl_TagOk.f a0_0 a0_1 a0_2 = some r) :
  Calls Try.prog 66 #[.agg #[I L a0_0, I L a0_1, I L a0_2]] w fun e w' => e = .returned (.bool r) ∧ Below w.heap.size w w' := by
 have hu31 := Try.underlying31
 have HB := D (Below.refl w.heap.size w)
 have H : ((impl_Vec_isFrom.f a0_0 a0_1 a0_2 0 1000000000000).bind fun t336 => (some t336)) = some r := h
 clear h
 obtain ⟨t336, A20, H⟩ := bs_.mp H
 (try dsimp only at H)
 have A2 := D A20
 clear A20
 obtain rfl := Option.some.inj H
 go_enter Try.func66, Try.ntmps66
 go_wp2_with (first|((with_reducible refine gate_dst (N:=1) rfl ?_);refine bx_ (N:=1) (cs:=#[I L a0_0,I L a0_1,I L a0_2]) (t:=31) ?_;intro gb335 hg w3 hbox hb;have n_:=an_ (below_step (pB_ HB.out) hb)<|an_ (hbox)<|an_ (bg_ hg (pB_ HB.out):w.heap.size≤gb335)<|D (bg_ hg (pB_ HB.out):w.heap.size≤gb335);clear HB;obtain ⟨HB,BK335,GW335,GE335⟩:=n_;clear hb hbox hg;obtain ⟨hcz4_0,hcz4_1,hcz4_2,hfz4_0,hfz4_1,hfz4_2⟩:=cells3 BK335.out)|((with_reducible refine gate_callee (f:=68) rfl ?_);refine goesL_ (some 4) rfl rfl Try.func68 (by kernel_rfl) rfl #[.agg #[I L a0_0,I L a0_1,I L a0_2],I L 0,I L 1000000000000] rfl Z13 ?_;(with_reducible refine (impl_Vec_isFrom.calls a0_0 a0_1 a0_2 0 1000000000000 t336 _ A2.out).mono ?_);rintro e w5 ⟨rfl,hb⟩;refine ⟨_,rfl,?_⟩;have n_:=an_ (blk_below (pk_ BK335.out) hb)<|D (below_step (pB_ HB.out) hb);clear BK335 HB;obtain ⟨BK335,HB⟩:=n_;(try clear hb)))
 go_ret
 exact ⟨er_, pB_ HB.out⟩

/-! ### impl_isDelta: function 67 -/
def impl_isDelta.f (a0 : Int) : Option (Bool) := (impl_within.f a0 0 10000000).bind fun t337 => (some t337)
set_option maxHeartbeats 8000000 in
set_option maxRecDepth 100000 in
theorem impl_isDelta.calls (a0 : Int) (r : Bool) (w : World) (h : impl_isDelta.f a0 = some r) :
  Calls Try.prog 67 #[I L a0] w fun e w' => e = .returned (.bool r) ∧ Drawn0 w w' := by
 have H : ((impl_within.f a0 0 10000000).bind fun t337 => (some t337)) = some r := h
 clear h
 obtain ⟨t337, A20, H⟩ := bs_.mp H
 (try dsimp only at H)
 have A2 := D A20
 clear A20
 obtain rfl := Option.some.inj H
 go_enter Try.func67, Try.ntmps67
 go_wp2_with (first|((with_reducible refine gate_callee (f:=73) rfl ?_);refine goesL_ (some 4) rfl rfl Try.func73 (by kernel_rfl) rfl #[I L a0,I L 0,I L 10000000] rfl Z13 ?_;(with_reducible refine (impl_within.calls a0 0 10000000 t337 _ A2.out).mono ?_);rintro e w' ⟨rfl,⟨nd,rfl⟩⟩;refine ⟨_,rfl,?_⟩))
 go_ret
 exact ⟨by first | rfl | (simp; done) | (simp [*]; done), by repeat (first | exact Drawn0.refl _ | apply Drawn0.step)⟩

end Go.Proofs.Ytolphjnajopknac.PFnExactTreeWake
