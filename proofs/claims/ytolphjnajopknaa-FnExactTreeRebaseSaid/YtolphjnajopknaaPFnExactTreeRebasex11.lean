-- by a program of this session's, over the kit's words
import Derived.Test.YtolphjnajopknaaPZFnExactTreeRebase
import Derived.Test.YtolphjnajopknaaPFnExactTreeRebasex0
import Derived.Test.YtolphjnajopknaaPFnExactTreeRebasex6
import Derived.Test.YtolphjnajopknaaPFnExactTreeRebasex7
import Derived.Test.YtolphjnajopknaaPFnExactTreeRebasex10
namespace Go.Proofs.Ytolphjnajopknaa.PFnExactTreeRebase
open Go.RowKit Go.Proofs.YtolphjnajopknaaW.PrintWords Go.Proofs.YtolphjnajopknaaW.PrintLast Go.Proofs.YtolphjnajopknaaW.PrintMore Go.Proofs.YtolphjnajopknaaV Go.Proofs.Ytolphjnajopknaa.ZFnExactTreeRebase
attribute [local go_sem] max2_int min2_int max_two min_two max_three min_three max_four min_four   -- for this text's walks alone
set_option linter.unusedVariables false
set_option linter.unusedSimpArgs false

/-! ### impl_copyTree: function 18 -/
def impl_copyTree.l0 : Nat → List (S48) → Int → Int → Int → Int → Int → Int → List (S61) → List (S48) → Option (Int × Int × Int × Int × (List (S61)) × (List (S48)))
 | 0, _, _, _, _, _, _, _, _, _ => none
 | k + 1,x11,x12,x13,x343000,x343001,x343002,x343003,x343004,x343005=>if x13 < x12 then (if 0≤x13 then (if x13 < (x11.length:Int) then ((impl_copyFair.f ((rd_T48 x11 x13).f1.f0) ((rd_T48 x11 x13).f1.f1.f0) ((rd_T48 x11 x13).f1.f1.f1) ((rd_T48 x11 x13).f1.f1.f2) ((rd_T48 x11 x13).f1.f2)).bind fun bt345=>(if x343005.length < 2199023255552 then (impl_copyTree.l0 k x11 x12 (wrap64 (x13 + 1)) x343000 x343001 x343002 x343003 x343004 (x343005 ++ [(⟨(rd_T48 x11 x13).f0,(⟨bt345.1,(⟨bt345.2.1,bt345.2.2.1,bt345.2.2.2.1⟩:S31),bt345.2.2.2.2⟩:S34)⟩:S48)])) else (none))) else (none)) else (none)) else (some (x343000,x343001,x343002,x343003,x343004,x343005))
def impl_copyTree.f (k : Nat) (a0_0 : Int) (a0_1 : Int) (a0_2 : Int) (a0_3 : Int) (l0_4 : List (S61)) (l0_5 : List (S48)) : Option (Int × Int × Int × Int × (List (S61)) × (List (S48))) := (impl_copyFair.f a0_0 a0_1 a0_2 a0_3 l0_4).bind fun bt335 => (impl_copyTree.l0 k l0_5 (l0_5.length : Int) 0 bt335.1 bt335.2.1 bt335.2.2.1 bt335.2.2.2.1 bt335.2.2.2.2 ([] : List (S48)))
def impl_copyTree.T5 : Bool × List (List Nat × List Nat) := (true, [([], []), ([0], [0]), ([], []), ([2], [2]), ([], []), ([4], [4]), ([5], [5]), ([3, 6], [3, 6]), ([7], [7]), ([1, 8, 6], [1, 8]), ([0, 1, 2, 3, 4, 5, 6, 7, 8, 9], []), ([10, 9, 9, 0, 1, 2, 3, 4, 5, 6, 7, 8, 9], [9, 10])])
def impl_copyTree.B5 : List Nat := [0, 1, 0, 4, 0, 16, 48, 124, 252, 511, 1023, 2047]
theorem impl_copyTree.tab5 : rtab .any (opsOf Try.f18 5) = impl_copyTree.T5 := by kernel_rfl
theorem impl_copyTree.bits5 : waitsOk impl_copyTree.T5.2 impl_copyTree.B5 = true := by kernel_rfl
set_option maxHeartbeats 8000000 in
set_option maxRecDepth 100000 in
theorem impl_copyTree.calls (k : Nat) (a0_0 : Int) (a0_1 : Int) (a0_2 : Int) (a0_3 : Int) (A0_4 : Option Addr) (c0_4 : Nat) (l0_4 : List (S61)) (A0_5 : Option Addr) (c0_5 : Nat) (l0_5 : List (S48)) (r1 : Int) (r2 : Int) (r3 : Int) (r4 : Int) (r5 : List (S61)) (r6 : List (S48)) (w : World) (hr0_4 : Kd.C k61 w A0_4 l0_4.length l0_4) (hc0_4 : l0_4.length ≤ c0_4) (hr0_5 : Kd.C k48 w A0_5 l0_5.length l0_5) (hc0_5 : l0_5.length ≤ c0_5) (h : impl_copyTree.f k a0_0 a0_1 a0_2 a0_3 l0_4 l0_5 = some (r1, r2, r3, r4, r5, r6)) :
  Calls Try.prog 18 #[.agg #[.int .i64 a0_0,.int .i64 a0_1,.int .i64 a0_2,.int .i64 a0_3,.slice A0_4 l0_4.length c0_4,.slice A0_5 l0_5.length c0_5]] w fun e w'=>∃ v4_ v5_:Value,e=.returned (.agg #[.int .i64 r1,.int .i64 r2,.int .i64 r3,.int .i64 r4,v4_,v5_])∧Kd.R k61 61 w' w.heap.size (fun _=>True) v4_ r5∧Kd.S k48 48 w' w.heap.size (fun k_=>some k_≠(v4_:Value).ownBlock) v5_ r6∧Below w.heap.size w w':=by
 have hu37 := Try.underlying37
 have hu34 := Try.underlying34
 have hu48 := Try.underlying48
 have HR0_4 := Aside0.mk hr0_4
 have HC0_4 := Aside0.mk hc0_4
 clear hr0_4 hc0_4
 have HR0_5 := Aside0.mk hr0_5
 have HC0_5 := Aside0.mk hc0_5
 clear hr0_5 hc0_5
 have HB := Aside0.mk (Below.refl w.heap.size w)
 have H:((impl_copyFair.f a0_0 a0_1 a0_2 a0_3 l0_4).bind fun bt335=>(impl_copyTree.l0 k l0_5 (l0_5.length:Int) 0 bt335.1 bt335.2.1 bt335.2.2.1 bt335.2.2.2.1 bt335.2.2.2.2 ([]:List (S48))))=some (r1,r2,r3,r4,r5,r6):=h
 clear h
 obtain ⟨⟨Ub, Jc, Kc, Xc, Mb⟩, A20, H⟩ := Option.bind_eq_some_iff.mp H
 (try dsimp only at H)
 have A2 := Aside0.mk A20
 clear A20
 have H' := Aside0.mk H
 clear H
 go_enter Try.func18, Try.ntmps18
 go_wp2_with (first|((with_reducible refine gate_dst (N:=1) rfl ?_);refine box_event ?hg (N:=1) ?hd (cs:=#[.int .i64 a0_0,.int .i64 a0_1,.int .i64 a0_2,.int .i64 a0_3,.slice A0_4 l0_4.length c0_4,.slice A0_5 l0_5.length c0_5]) (t:=37) ?hr ?_;(case hd=>rfl);(case hg=>rfl);(case hr=>first|(go_simp;done)|(go_simp;rfl));intro Ob hg w3 hbox hb;have n_:=an_ (below_step (pB_ HB.out) hb)<|an_ (hbox)<|an_ ((by rw [hg];exact (below_size (pB_ HB.out)):w.heap.size≤Ob))<|Aside0.mk ((by rw [hg];exact (below_size (pB_ HB.out)):w.heap.size≤Ob));clear HB;obtain ⟨HB,Oa,Kp,Mp⟩:=n_;clear hb hbox hg)|((with_reducible refine gate_dst (N:=2) rfl ?_);refine box_event ?hg (N:=2) ?hd (cs:=#[.int .i64 0,.int .i64 0,.int .i64 0,.int .i64 0,.slice none 0 0,.slice none 0 0]) (t:=37) ?hr ?_;(case hd=>rfl);(case hg=>rfl);(case hr=>first|(go_simp;done)|(go_simp;rfl));intro Mc hg w4 hbox hb;have n_:=an_ (blk_below (pk_ Oa.out) hb)<|an_ (below_step (pB_ HB.out) hb)<|an_ (hbox)<|an_ ((by rw [hg];exact (below_size (pB_ HB.out)):w.heap.size≤Mc))<|an_ ((by rw [hg];exact (below_size (pB_ HB.out)):w.heap.size≤Mc))<|an_ ((by rw [hg];exact Nat.ne_of_lt (blk_lt (pk_ Oa.out)):Ob≠Mc))<|Aside0.mk ((by rw [hg];exact Nat.ne_of_gt (blk_lt (pk_ Oa.out)):Mc≠Ob));clear Oa HB;obtain ⟨Oa,HB,Xa,Op,Up,Mg,Og⟩:=n_;clear hb hbox hg;(try have hnb5:=Mg.out);(try have hnc5:=Og.out);obtain ⟨Mh,Oh,Uh,Xh,Ji,Ki,Mi,Oi,Ui,Xi,Jj,Kj⟩:=cells6 Oa.out)|((with_reducible refine gate_callee (f:=38) rfl ?_);refine goesL_ (some 8) rfl rfl Try.func38 (by kernel_rfl) rfl #[.agg #[.int .i64 a0_0,.int .i64 a0_1,.int .i64 a0_2,.int .i64 a0_3,.slice A0_4 l0_4.length c0_4]] rfl Z8 ?_;(with_reducible refine (impl_copyFair.calls a0_0 a0_1 a0_2 a0_3 _ _ l0_4 Ub Jc Kc Xc Mb _ ?side1 ?side2 A2.out).mono ?_);(case side1=>exact pC_ (Kd.C_below HR0_4.out HB.out));(case side2=>exact HC0_4.out);rintro e w7 ⟨Xp,rfl,ho0,hb⟩;refine ⟨_,rfl,?_⟩;have n_:=an_ (Kd.R_lower ho0 (below_size (pB_ HB.out)))<|an_ (blk_below (pk_ Oa.out) hb)<|an_ (blk_below (pk_ Xa.out) hb)<|Aside0.mk (below_step (pB_ HB.out) hb);clear Oa Xa HB;obtain ⟨Me,Oa,Xa,HB⟩:=n_;(try clear hb);(try clear hb2);(try clear hk);(try clear hi);(try clear ho0);obtain ⟨Oc,Uc,eo8⟩:=Kd.R_slice Me.out;subst eo8)|((with_reducible refine gate_dst (N:=3) rfl ?_);refine box_event ?hg (N:=3) ?hd (cs:=#[.int .i64 0,.int .i64 0,.int .i64 0,.int .i64 0,.slice none 0 0,.slice none 0 0]) (t:=37) ?hr ?_;(case hd=>rfl);(case hg=>rfl);(case hr=>first|(go_simp;done)|(go_simp;rfl));intro Jb hg w9 hbox hb;have n_:=an_ (Kd.R_below (pR_ Me.out) hb)<|an_ (blk_below (pk_ Oa.out) hb)<|an_ (blk_below (pk_ Xa.out) hb)<|an_ (below_step (pB_ HB.out) hb)<|an_ (hbox)<|an_ ((by rw [hg];exact (below_size (pB_ HB.out)):w.heap.size≤Jb))<|an_ ((by rw [hg];exact (below_size (pB_ HB.out)):w.heap.size≤Jb))<|an_ ((by rw [hg];exact Nat.ne_of_lt (blk_lt (pk_ Oa.out)):Ob≠Jb))<|an_ ((by rw [hg];exact Nat.ne_of_gt (blk_lt (pk_ Oa.out)):Jb≠Ob))<|an_ ((by rw [hg];exact Nat.ne_of_lt (blk_lt (pk_ Xa.out)):Mc≠Jb))<|Aside0.mk ((by rw [hg];exact Nat.ne_of_gt (blk_lt (pk_ Xa.out)):Jb≠Mc));clear Me Oa Xa HB;obtain ⟨Me,Oa,Xa,HB,Ma,Jq,Kq,Jd,Mf,Md,Of⟩:=n_;clear hb hbox hg;(try have hnb10:=Mf.out);(try have hnc10:=Jd.out);(try have hnb11:=Of.out);(try have hnc11:=Md.out);obtain ⟨Mj,Oj,Uj,Xj,Jk,Kk,Mk,Ok,Uk,Xk,Jm,Km⟩:=cells6 Ma.out;obtain ⟨Mm,Om,Um,Xm,Jn,Kn,Mn,On,Un,Xn,Jo,Ko⟩:=cells6 Oa.out))
 go_loopg [13] k (fun kq v13 w'=>∃ (Ja:Int) (Od:List (S48)) (u343005:Value),v13=.int .i64 Ja∧Aside0 (impl_copyTree.l0 kq l0_5 (l0_5.length:Int) Ja Ub Jc Kc Xc Mb Od=some (r1,r2,r3,r4,r5,r6))∧Aside0 (kq≤k)∧Aside0 (Kd.R k61 61 w' w.heap.size (fun _=>True) (.slice Oc Mb.length Uc) Mb)∧Aside0 (Kd.S k48 48 w' w.heap.size (fun k_=>some k_≠((.slice Oc Mb.length Uc):Value).ownBlock) u343005 Od)∧Aside0 (w'.heap[Ob]?=some (.cells #[.int .i64 a0_0,.int .i64 a0_1,.int .i64 a0_2,.int .i64 a0_3,(.slice A0_4 l0_4.length c0_4),(.slice A0_5 l0_5.length c0_5)] 37 (0,0)))∧Aside0 (w'.heap[Mc]?=some (.cells #[.int .i64 0,.int .i64 0,.int .i64 0,.int .i64 0,(.slice none 0 0),(.slice none 0 0)] 37 (0,0)))∧Aside0 (w'.heap[Jb]?=some (.cells #[.int .i64 Ub,.int .i64 Jc,.int .i64 Kc,.int .i64 Xc,(.slice Oc Mb.length Uc),u343005] 37 (0,0)))∧Aside0 (Below w.heap.size w w'))
 case atStart=>exact ⟨(0),(([]:List (S48))),(.slice none 0 0),Z27,H',⟨Nat.le_refl _⟩,⟨pR_ (Kd.R_mono (fr_ (fr_ (fr_ (fr_ (fr_ (fr_ (Kd.R_types Me.out Ma.out (by decide)) 0 (.int .i64 Ub)) 1 (.int .i64 Jc)) 2 (.int .i64 Kc)) 3 (.int .i64 Xc)) 4 (.slice Oc Mb.length Uc)) 5 (.slice none 0 0)) (fun _ hk=>trivial))⟩,⟨by first|exact Kd.S_nil _ _ _ _ _|exact Kd.N_nil _ _ _ _ _|exact Kd.V_nil _ _ _ _ _|exact Kd.Q_nil _ _ _ _ _|exact Kd.R_nil _ _ _ _ _⟩,⟨by refine pk_ ?_;refine blk_far ?_ Jd.out _;refine pk_ ?_;refine blk_far ?_ Jd.out _;refine pk_ ?_;refine blk_far ?_ Jd.out _;refine pk_ ?_;refine blk_far ?_ Jd.out _;refine pk_ ?_;refine blk_far ?_ Jd.out _;refine pk_ ?_;refine blk_far ?_ Jd.out _;refine pk_ ?_;exact Oa.out⟩,⟨by refine pk_ ?_;refine blk_far ?_ Md.out _;refine pk_ ?_;refine blk_far ?_ Md.out _;refine pk_ ?_;refine blk_far ?_ Md.out _;refine pk_ ?_;refine blk_far ?_ Md.out _;refine pk_ ?_;refine blk_far ?_ Md.out _;refine pk_ ?_;refine blk_far ?_ Md.out _;refine pk_ ?_;exact Xa.out⟩,⟨by refine pk_ ?_;refine blk_put (cs:=#[.int .i64 Ub,.int .i64 Jc,.int .i64 Kc,.int .i64 Xc,.slice Oc Mb.length Uc,.slice none 0 0]) ?_ 5 _ rfl;refine pk_ ?_;refine blk_put (cs:=#[.int .i64 Ub,.int .i64 Jc,.int .i64 Kc,.int .i64 Xc,.slice none 0 0,.slice none 0 0]) ?_ 4 _ rfl;refine pk_ ?_;refine blk_put (cs:=#[.int .i64 Ub,.int .i64 Jc,.int .i64 Kc,.int .i64 0,.slice none 0 0,.slice none 0 0]) ?_ 3 _ rfl;refine pk_ ?_;refine blk_put (cs:=#[.int .i64 Ub,.int .i64 Jc,.int .i64 0,.int .i64 0,.slice none 0 0,.slice none 0 0]) ?_ 2 _ rfl;refine pk_ ?_;refine blk_put (cs:=#[.int .i64 Ub,.int .i64 0,.int .i64 0,.int .i64 0,.slice none 0 0,.slice none 0 0]) ?_ 1 _ rfl;refine pk_ ?_;refine blk_put (cs:=#[.int .i64 0,.int .i64 0,.int .i64 0,.int .i64 0,.slice none 0 0,.slice none 0 0]) ?_ 0 _ rfl;refine pk_ ?_;exact Ma.out⟩,⟨pB_ HB.out⟩⟩
 case round =>
  clear H'
  try clear c1
  try clear p2
  try clear c3
  try clear c5
  try clear c10
  try clear c11
  try clear Mj Oj Uj Xj Jk Kk Mk Ok Uk Xk Jm Km
  try clear Mm Om Um Xm Jn Kn Mn On Un Xn Jo Ko
  try clear Mh Oh Uh Xh Ji Ki Mi Oi Ui Xi Jj Kj
  obtain ⟨Ja, Od, u343005, rfl, HA, HK1, Xb, Kb, Oa, Xa, Ma, HB⟩ := hrel
  cases gk with
  | zero => exact absurd HA.out (by simp [impl_copyTree.l0])
  | succ k1 =>
   have H := HA.out; clear HA; simp only [impl_copyTree.l0] at H
   by_cases c14 : Ja < (l0_5.length : Int)
   ·rw [if_pos c14] at H
    have c14b0 : decide (Ja < (l0_5.length : Int)) = true := decide_eq_true c14; clear c14
    by_cases c15 : 0 ≤ Ja
    ·rw [if_pos c15] at H
     have c15b0 : decide (0 ≤ Ja) = true := decide_eq_true c15; clear c15
     by_cases c16 : Ja < (l0_5.length : Int)
     ·rw [if_pos c16] at H
      have c16b0:decide (Ja < (l0_5.length:Int))=true:=decide_eq_true c16;clear c16;obtain ⟨⟨Oe,Ue,Xe,Jf,Ke⟩,A170,H⟩:=Option.bind_eq_some_iff.mp H;(try dsimp only at H);have A17:=Aside0.mk A170;clear A170
      by_cases c18 : Od.length < 2199023255552
      ·rw [if_pos c18] at H
       have LMc18 := Aside0.mk c18; clear c18; obtain ⟨y352, hy352⟩ : ∃ y_ : List (S48), y_ = (Od ++ [(⟨(rd_T48 l0_5 Ja).f0, (⟨Oe, (⟨Ue, Xe, Jf⟩ : S31), Ke⟩ : S34)⟩ : S48)]) := ⟨_, rfl⟩
       replace H:(impl_copyTree.l0 k1 l0_5 (l0_5.length:Int) (wrap64 (Ja + 1)) Ub Jc Kc Xc Mb y352)=some (r1,r2,r3,r4,r5,r6):=by first|(rw [hy352];with_reducible exact H)|(have H2_:=(Option.bind_some _ _).symm.trans H;rw [hy352];with_reducible exact H2_)|(have H2_:=(Option.bind_some _ _).symm.trans H;with_reducible exact H2_)|with_reducible exact H|(rw [hy352];exact H)|exact H
       have Ny352:=Aside0.mk hy352;clear hy352;have H':=Aside0.mk H;clear H;have p343:0≤(Ja:Int):=of_decide_eq_true Z26;have q343:Ja < (l0_5.length:Int):=of_decide_eq_true Z26;obtain ⟨ad343,A343_5,c343_5,e343,hx343_0,hx343_1,hx343_2,hx343_3,hx343_4,hx343_5,hl343_5,hi343_5⟩:=at_T48 HR0_5.out Ja p343 q343;cases e343;replace hx343_0:=rc_ HB.out hx343_0;replace hx343_1:=rc_ HB.out hx343_1;replace hx343_2:=rc_ HB.out hx343_2;replace hx343_3:=rc_ HB.out hx343_3;replace hx343_4:=rc_ HB.out hx343_4;replace hx343_5:=rc_ HB.out hx343_5;have HR343_5:=Aside0.mk hi343_5;have HC343_5:=Aside0.mk hl343_5;clear hi343_5 hl343_5;replace p343:=eq_true p343;replace q343:=eq_true q343
       try go_wp2_with (first|((with_reducible refine gate_dst (N:=5) rfl ?_);refine box_event ?hg (N:=5) ?hd (cs:=#[.int .i64 0,.int .i64 0,.int .i64 0,.int .i64 0,.int .i64 0,.slice none 0 0]) (t:=48) ?hr ?_;(case hd=>rfl);(case hg=>rfl);(case hr=>first|(go_simp;done)|(go_simp;rfl));intro Ka hg w19 hbox hb;have n_:=an_ (Kd.R_below (pR_ Xb.out) hb)<|an_ (Kd.S_below (Kd.S_elderB (pS_ Kb.out) Ka (Nat.le_of_eq hg.symm)) hb)<|an_ (blk_below (pk_ Oa.out) hb)<|an_ (blk_below (pk_ Xa.out) hb)<|an_ (blk_below (pk_ Ma.out) hb)<|an_ (below_step (pB_ HB.out) hb)<|an_ (hbox)<|an_ ((by rw [hg];exact (below_size (pB_ HB.out)):w.heap.size≤Ka))<|an_ ((by rw [hg];exact (below_size (pB_ HB.out)):w.heap.size≤Ka))<|an_ ((by rw [hg];exact Nat.ne_of_lt (blk_lt (pk_ Oa.out)):Ob≠Ka))<|an_ ((by rw [hg];exact Nat.ne_of_gt (blk_lt (pk_ Oa.out)):Ka≠Ob))<|an_ ((by rw [hg];exact Nat.ne_of_lt (blk_lt (pk_ Xa.out)):Mc≠Ka))<|an_ ((by rw [hg];exact Nat.ne_of_gt (blk_lt (pk_ Xa.out)):Ka≠Mc))<|an_ ((by rw [hg];exact Nat.ne_of_lt (blk_lt (pk_ Ma.out)):Jb≠Ka))<|Aside0.mk ((by rw [hg];exact Nat.ne_of_gt (blk_lt (pk_ Ma.out)):Ka≠Jb));clear Xb Kb Oa Xa Ma HB;obtain ⟨Xb,Kb,Oa,Xa,Ma,HB,Ua,Mq,Oq,Xd,Mo,Je,Oo,Ud,Ug⟩:=n_;clear hb hbox hg;(try have hnb20:=Mo.out);(try have hnc20:=Xd.out);(try have hnb21:=Oo.out);(try have hnc21:=Je.out);(try have hnb22:=Ug.out);(try have hnc22:=Ud.out);obtain ⟨Uq,Xq,Jr,Kr,Mr,Or,Ur,Xr,Js,Ks,Ms,Os⟩:=cells6 Ua.out))
       have n0_:Aside0 (Kd.R k61 61 ((((((w19.setCell ⟨Ka,0,none⟩ (.int .i64 ((rd_T48 l0_5 Ja).f0))).setCell ⟨Ka,1,none⟩ (.int .i64 ((rd_T48 l0_5 Ja).f1.f0))).setCell ⟨Ka,2,none⟩ (.int .i64 ((rd_T48 l0_5 Ja).f1.f1.f0))).setCell ⟨Ka,3,none⟩ (.int .i64 ((rd_T48 l0_5 Ja).f1.f1.f1))).setCell ⟨Ka,4,none⟩ (.int .i64 ((rd_T48 l0_5 Ja).f1.f1.f2))).setCell ⟨Ka,5,none⟩ (.slice A343_5 ((rd_T48 l0_5 Ja).f1.f2).length c343_5)) w.heap.size (fun _=>True) (.slice Oc Mb.length Uc) Mb):=⟨pR_ (Kd.R_mono (fr_ (fr_ (fr_ (fr_ (fr_ (fr_ (Kd.R_types Xb.out Ua.out (by decide)) 0 (.int .i64 ((rd_T48 l0_5 Ja).f0))) 1 (.int .i64 ((rd_T48 l0_5 Ja).f1.f0))) 2 (.int .i64 ((rd_T48 l0_5 Ja).f1.f1.f0))) 3 (.int .i64 ((rd_T48 l0_5 Ja).f1.f1.f1))) 4 (.int .i64 ((rd_T48 l0_5 Ja).f1.f1.f2))) 5 (.slice A343_5 ((rd_T48 l0_5 Ja).f1.f2).length c343_5)) (fun _ hk=>trivial))⟩;have n1_:Aside0 (Kd.S k48 48 ((((((w19.setCell ⟨Ka,0,none⟩ (.int .i64 ((rd_T48 l0_5 Ja).f0))).setCell ⟨Ka,1,none⟩ (.int .i64 ((rd_T48 l0_5 Ja).f1.f0))).setCell ⟨Ka,2,none⟩ (.int .i64 ((rd_T48 l0_5 Ja).f1.f1.f0))).setCell ⟨Ka,3,none⟩ (.int .i64 ((rd_T48 l0_5 Ja).f1.f1.f1))).setCell ⟨Ka,4,none⟩ (.int .i64 ((rd_T48 l0_5 Ja).f1.f1.f2))).setCell ⟨Ka,5,none⟩ (.slice A343_5 ((rd_T48 l0_5 Ja).f1.f2).length c343_5)) w.heap.size (fun k_=>some k_≠(.slice Oc Mb.length Uc:Value).ownBlock∧k_≠Ka) u343005 Od):=⟨pS_ (Kd.S_mono (Kd.S_far (p:=⟨Ka,5,none⟩) (Kd.S_far (p:=⟨Ka,4,none⟩) (Kd.S_far (p:=⟨Ka,3,none⟩) (Kd.S_far (p:=⟨Ka,2,none⟩) (Kd.S_far (p:=⟨Ka,1,none⟩) (Kd.S_far (p:=⟨Ka,0,none⟩) (Kd.S_mono Kb.out (fun k_ hk=>(⟨hk,hk.2⟩:_∧k_≠Ka))) (fun _ hk=>hk.2) (.int .i64 ((rd_T48 l0_5 Ja).f0))) (fun _ hk=>hk.2) (.int .i64 ((rd_T48 l0_5 Ja).f1.f0))) (fun _ hk=>hk.2) (.int .i64 ((rd_T48 l0_5 Ja).f1.f1.f0))) (fun _ hk=>hk.2) (.int .i64 ((rd_T48 l0_5 Ja).f1.f1.f1))) (fun _ hk=>hk.2) (.int .i64 ((rd_T48 l0_5 Ja).f1.f1.f2))) (fun _ hk=>hk.2) (.slice A343_5 ((rd_T48 l0_5 Ja).f1.f2).length c343_5)) (fun _ hk=>⟨hk.1.1,hk.1.2⟩))⟩;have n2_:Aside0 (((((((w19.setCell ⟨Ka,0,none⟩ (.int .i64 ((rd_T48 l0_5 Ja).f0))).setCell ⟨Ka,1,none⟩ (.int .i64 ((rd_T48 l0_5 Ja).f1.f0))).setCell ⟨Ka,2,none⟩ (.int .i64 ((rd_T48 l0_5 Ja).f1.f1.f0))).setCell ⟨Ka,3,none⟩ (.int .i64 ((rd_T48 l0_5 Ja).f1.f1.f1))).setCell ⟨Ka,4,none⟩ (.int .i64 ((rd_T48 l0_5 Ja).f1.f1.f2))).setCell ⟨Ka,5,none⟩ (.slice A343_5 ((rd_T48 l0_5 Ja).f1.f2).length c343_5)).heap[Ob]?=some (.cells #[.int .i64 a0_0,.int .i64 a0_1,.int .i64 a0_2,.int .i64 a0_3,.slice A0_4 l0_4.length c0_4,.slice (some ad343) l0_5.length c0_5] 37 (0,0))):=⟨by refine pk_ ?_;refine blk_far ?_ Xd.out _;refine pk_ ?_;refine blk_far ?_ Xd.out _;refine pk_ ?_;refine blk_far ?_ Xd.out _;refine pk_ ?_;refine blk_far ?_ Xd.out _;refine pk_ ?_;refine blk_far ?_ Xd.out _;refine pk_ ?_;refine blk_far ?_ Xd.out _;refine pk_ ?_;exact Oa.out⟩;have n3_:Aside0 (((((((w19.setCell ⟨Ka,0,none⟩ (.int .i64 ((rd_T48 l0_5 Ja).f0))).setCell ⟨Ka,1,none⟩ (.int .i64 ((rd_T48 l0_5 Ja).f1.f0))).setCell ⟨Ka,2,none⟩ (.int .i64 ((rd_T48 l0_5 Ja).f1.f1.f0))).setCell ⟨Ka,3,none⟩ (.int .i64 ((rd_T48 l0_5 Ja).f1.f1.f1))).setCell ⟨Ka,4,none⟩ (.int .i64 ((rd_T48 l0_5 Ja).f1.f1.f2))).setCell ⟨Ka,5,none⟩ (.slice A343_5 ((rd_T48 l0_5 Ja).f1.f2).length c343_5)).heap[Mc]?=some (.cells #[.int .i64 0,.int .i64 0,.int .i64 0,.int .i64 0,.slice none 0 0,.slice none 0 0] 37 (0,0))):=⟨by refine pk_ ?_;refine blk_far ?_ Je.out _;refine pk_ ?_;refine blk_far ?_ Je.out _;refine pk_ ?_;refine blk_far ?_ Je.out _;refine pk_ ?_;refine blk_far ?_ Je.out _;refine pk_ ?_;refine blk_far ?_ Je.out _;refine pk_ ?_;refine blk_far ?_ Je.out _;refine pk_ ?_;exact Xa.out⟩;have n4_:Aside0 (((((((w19.setCell ⟨Ka,0,none⟩ (.int .i64 ((rd_T48 l0_5 Ja).f0))).setCell ⟨Ka,1,none⟩ (.int .i64 ((rd_T48 l0_5 Ja).f1.f0))).setCell ⟨Ka,2,none⟩ (.int .i64 ((rd_T48 l0_5 Ja).f1.f1.f0))).setCell ⟨Ka,3,none⟩ (.int .i64 ((rd_T48 l0_5 Ja).f1.f1.f1))).setCell ⟨Ka,4,none⟩ (.int .i64 ((rd_T48 l0_5 Ja).f1.f1.f2))).setCell ⟨Ka,5,none⟩ (.slice A343_5 ((rd_T48 l0_5 Ja).f1.f2).length c343_5)).heap[Jb]?=some (.cells #[.int .i64 Ub,.int .i64 Jc,.int .i64 Kc,.int .i64 Xc,.slice Oc Mb.length Uc,u343005] 37 (0,0))):=⟨by refine pk_ ?_;refine blk_far ?_ Ud.out _;refine pk_ ?_;refine blk_far ?_ Ud.out _;refine pk_ ?_;refine blk_far ?_ Ud.out _;refine pk_ ?_;refine blk_far ?_ Ud.out _;refine pk_ ?_;refine blk_far ?_ Ud.out _;refine pk_ ?_;refine blk_far ?_ Ud.out _;refine pk_ ?_;exact Ma.out⟩
       have n5_:Aside0 (((((((w19.setCell ⟨Ka,0,none⟩ (.int .i64 ((rd_T48 l0_5 Ja).f0))).setCell ⟨Ka,1,none⟩ (.int .i64 ((rd_T48 l0_5 Ja).f1.f0))).setCell ⟨Ka,2,none⟩ (.int .i64 ((rd_T48 l0_5 Ja).f1.f1.f0))).setCell ⟨Ka,3,none⟩ (.int .i64 ((rd_T48 l0_5 Ja).f1.f1.f1))).setCell ⟨Ka,4,none⟩ (.int .i64 ((rd_T48 l0_5 Ja).f1.f1.f2))).setCell ⟨Ka,5,none⟩ (.slice A343_5 ((rd_T48 l0_5 Ja).f1.f2).length c343_5)).heap[Ka]?=some (.cells #[.int .i64 ((rd_T48 l0_5 Ja).f0),.int .i64 ((rd_T48 l0_5 Ja).f1.f0),.int .i64 ((rd_T48 l0_5 Ja).f1.f1.f0),.int .i64 ((rd_T48 l0_5 Ja).f1.f1.f1),.int .i64 ((rd_T48 l0_5 Ja).f1.f1.f2),.slice A343_5 ((rd_T48 l0_5 Ja).f1.f2).length c343_5] 48 (0,0))):=⟨by refine pk_ ?_;refine blk_put (cs:=#[.int .i64 ((rd_T48 l0_5 Ja).f0),.int .i64 ((rd_T48 l0_5 Ja).f1.f0),.int .i64 ((rd_T48 l0_5 Ja).f1.f1.f0),.int .i64 ((rd_T48 l0_5 Ja).f1.f1.f1),.int .i64 ((rd_T48 l0_5 Ja).f1.f1.f2),.slice none 0 0]) ?_ 5 _ rfl;refine pk_ ?_;refine blk_put (cs:=#[.int .i64 ((rd_T48 l0_5 Ja).f0),.int .i64 ((rd_T48 l0_5 Ja).f1.f0),.int .i64 ((rd_T48 l0_5 Ja).f1.f1.f0),.int .i64 ((rd_T48 l0_5 Ja).f1.f1.f1),.int .i64 0,.slice none 0 0]) ?_ 4 _ rfl;refine pk_ ?_;refine blk_put (cs:=#[.int .i64 ((rd_T48 l0_5 Ja).f0),.int .i64 ((rd_T48 l0_5 Ja).f1.f0),.int .i64 ((rd_T48 l0_5 Ja).f1.f1.f0),.int .i64 0,.int .i64 0,.slice none 0 0]) ?_ 3 _ rfl;refine pk_ ?_;refine blk_put (cs:=#[.int .i64 ((rd_T48 l0_5 Ja).f0),.int .i64 ((rd_T48 l0_5 Ja).f1.f0),.int .i64 0,.int .i64 0,.int .i64 0,.slice none 0 0]) ?_ 2 _ rfl;refine pk_ ?_;refine blk_put (cs:=#[.int .i64 ((rd_T48 l0_5 Ja).f0),.int .i64 0,.int .i64 0,.int .i64 0,.int .i64 0,.slice none 0 0]) ?_ 1 _ rfl;refine pk_ ?_;refine blk_put (cs:=#[.int .i64 0,.int .i64 0,.int .i64 0,.int .i64 0,.int .i64 0,.slice none 0 0]) ?_ 0 _ rfl;refine pk_ ?_;exact Ua.out⟩;have n6_:Aside0 (Below w.heap.size w ((((((w19.setCell ⟨Ka,0,none⟩ (.int .i64 ((rd_T48 l0_5 Ja).f0))).setCell ⟨Ka,1,none⟩ (.int .i64 ((rd_T48 l0_5 Ja).f1.f0))).setCell ⟨Ka,2,none⟩ (.int .i64 ((rd_T48 l0_5 Ja).f1.f1.f0))).setCell ⟨Ka,3,none⟩ (.int .i64 ((rd_T48 l0_5 Ja).f1.f1.f1))).setCell ⟨Ka,4,none⟩ (.int .i64 ((rd_T48 l0_5 Ja).f1.f1.f2))).setCell ⟨Ka,5,none⟩ (.slice A343_5 ((rd_T48 l0_5 Ja).f1.f2).length c343_5))):=⟨pB_ HB.out⟩;(try clear Xb);(try clear Kb);(try clear Oa);(try clear Xa);(try clear Ma);(try clear Ua);(try clear HB);generalize ((((((w19.setCell ⟨Ka,0,none⟩ (.int .i64 ((rd_T48 l0_5 Ja).f0))).setCell ⟨Ka,1,none⟩ (.int .i64 ((rd_T48 l0_5 Ja).f1.f0))).setCell ⟨Ka,2,none⟩ (.int .i64 ((rd_T48 l0_5 Ja).f1.f1.f0))).setCell ⟨Ka,3,none⟩ (.int .i64 ((rd_T48 l0_5 Ja).f1.f1.f1))).setCell ⟨Ka,4,none⟩ (.int .i64 ((rd_T48 l0_5 Ja).f1.f1.f2))).setCell ⟨Ka,5,none⟩ (.slice A343_5 ((rd_T48 l0_5 Ja).f1.f2).length c343_5))=w24 at n0_ n1_ n2_ n3_ n4_ n5_ n6_ ⊢;have Xb:=n0_;have Kb:=n1_;have Oa:=n2_;have Xa:=n3_;have Ma:=n4_;have Ua:=n5_;have HB:=n6_;clear n0_ n1_ n2_ n3_ n4_ n5_ n6_
       have n_:=an_ (Kd.R_drew Xb.out)<|an_ (Kd.S_drew Kb.out)<|an_ (blk_drew Oa.out)<|an_ (blk_drew Xa.out)<|an_ (blk_drew Ma.out)<|an_ (blk_drew Ua.out)<|Aside0.mk (below_drew1 HB.out)
       clear Xb Kb Oa Xa Ma Ua HB;obtain ⟨Xb,Kb,Oa,Xa,Ma,Ua,HB⟩:=n_;refine start_ (n:=12) (S:=fun w'=>w'.cell? ⟨Jb,0,none⟩=some (.int .i64 Ub)∧w'.cell? ⟨Jb,1,none⟩=some (.int .i64 Jc)∧w'.cell? ⟨Jb,2,none⟩=some (.int .i64 Kc)∧w'.cell? ⟨Jb,3,none⟩=some (.int .i64 Xc)∧w'.cell? ⟨Jb,4,none⟩=some (.slice Oc Mb.length Uc)∧w'.cell? ⟨Jb,5,none⟩=some (u343005)∧w'.cell? ⟨Ka,0,none⟩=some (.int .i64 ((rd_T48 l0_5 Ja).f0))∧w'.cell? ⟨Ka,1,none⟩=some (.int .i64 ((rd_T48 l0_5 Ja).f1.f0))∧w'.cell? ⟨Ka,2,none⟩=some (.int .i64 ((rd_T48 l0_5 Ja).f1.f1.f0))∧w'.cell? ⟨Ka,3,none⟩=some (.int .i64 ((rd_T48 l0_5 Ja).f1.f1.f1))∧w'.cell? ⟨Ka,4,none⟩=some (.int .i64 ((rd_T48 l0_5 Ja).f1.f1.f2))∧w'.cell? ⟨Ka,5,none⟩=some (.slice A343_5 ((rd_T48 l0_5 Ja).f1.f2).length c343_5)) (ds:=[11]) (bz 12 0) (by kernel_rfl) rfl (by kernel_rfl) ⟨(blk_cell Ma.out 0).trans rfl,(blk_cell Ma.out 1).trans rfl,(blk_cell Ma.out 2).trans rfl,(blk_cell Ma.out 3).trans rfl,(blk_cell Ma.out 4).trans rfl,(blk_cell Ma.out 5).trans rfl,(blk_cell Ua.out 0).trans rfl,(blk_cell Ua.out 1).trans rfl,(blk_cell Ua.out 2).trans rfl,(blk_cell Ua.out 3).trans rfl,(blk_cell Ua.out 4).trans rfl,(blk_cell Ua.out 5).trans rfl⟩ (fun hHeld=>?_);refine with_tabW impl_copyTree.tab5 impl_copyTree.bits5 (fun HT_ HW_=>?_);generalize w24.drew=w25 at Xb Kb Oa Xa Ma Ua HB hHeld ⊢;refine pa_ 0 17 12 1 HT_ ?_;refine pa_ 2 19 12 5 HT_ ?_;refine pa_ 4 21 12 21 HT_ ?_;refine ta_ 1 18 12 23 HT_ HW_ rfl rfl hHeld Z21 ?_;refine ta_ 3 20 12 31 HT_ HW_ rfl rfl hHeld Z21 ?_;refine ta_ 5 22 12 63 HT_ HW_ rfl rfl hHeld Z21 ?_;refine oa_ 6 23 12 127 HT_ (fun K hK=>?_);refine goes_ Try.func38 (by kernel_rfl) rfl #[.agg #[.int .i64 ((rd_T48 l0_5 Ja).f1.f0),.int .i64 ((rd_T48 l0_5 Ja).f1.f1.f0),.int .i64 ((rd_T48 l0_5 Ja).f1.f1.f1),.int .i64 ((rd_T48 l0_5 Ja).f1.f1.f2),.slice A343_5 ((rd_T48 l0_5 Ja).f1.f2).length c343_5]] (by rfl) rfl rfl Z8 ?_;with_reducible refine (impl_copyFair.calls ((rd_T48 l0_5 Ja).f1.f0) ((rd_T48 l0_5 Ja).f1.f1.f0) ((rd_T48 l0_5 Ja).f1.f1.f1) ((rd_T48 l0_5 Ja).f1.f1.f2) _ _ ((rd_T48 l0_5 Ja).f1.f2) Oe Ue Xe Jf Ke _ ?side1 ?side2 A17.out).mono ?_
       (case side1 => exact pC_ (Kd.C_below HR343_5.out HB.out)); (case side2 => exact HC343_5.out); rintro e w26 ⟨Us, rfl, ho0, hb⟩; refine ⟨_, rfl, ?_⟩
       have n_:=an_ (Kd.R_elder' (pR_ Xb.out) (Kd.R_base ho0) hb)<|an_ (Kd.S_elder' (pS_ Kb.out) (Kd.R_base ho0) hb)<|an_ (Kd.R_lower (nw_ ho0 (pR_ Xb.out)) (below_size (pB_ HB.out)))<|an_ (blk_below (pk_ Oa.out) hb)<|an_ (blk_below (pk_ Xa.out) hb)<|an_ (blk_below (pk_ Ma.out) hb)<|an_ (blk_below (pk_ Ua.out) hb)<|Aside0.mk (below_step (pB_ HB.out) hb)
       clear Xb Kb Oa Xa Ma Ua HB;obtain ⟨Xb,Kb,Kf,Oa,Xa,Ma,Ua,HB⟩:=n_;(try clear hb);(try clear hb2);(try clear hk);(try clear hi);(try clear ho0);obtain ⟨Xg,Jh,eo27⟩:=Kd.R_slice Kf.out;(first|subst eo27|obtain ⟨rfl,rfl⟩:=sl_inj eo27);refine hK.out _ _ ⟨(blk_cell Ma.out 0).trans rfl,(blk_cell Ma.out 1).trans rfl,(blk_cell Ma.out 2).trans rfl,(blk_cell Ma.out 3).trans rfl,(blk_cell Ma.out 4).trans rfl,(blk_cell Ma.out 5).trans rfl,(blk_cell Ua.out 0).trans rfl,(blk_cell Ua.out 1).trans rfl,(blk_cell Ua.out 2).trans rfl,(blk_cell Ua.out 3).trans rfl,(blk_cell Ua.out 4).trans rfl,(blk_cell Ua.out 5).trans rfl⟩ (fun hHeld=>?_);clear hK K;refine nx_ (N:=some 23) ?_;refine pa_ 7 24 12 255 HT_ ?_;refine oa_ 8 25 12 511 HT_ (fun K hK=>?_);refine value_ (w1:=?_) (v:=?_) (by rfl) rfl ?_ ?_;rotate_left 2
       ·go_simp
        constructor
        ·rfl
        ·rfl
       refine hK.out _ _ ⟨(blk_cell (blk_alloc Ma.out _) 0).trans rfl,(blk_cell (blk_alloc Ma.out _) 1).trans rfl,(blk_cell (blk_alloc Ma.out _) 2).trans rfl,(blk_cell (blk_alloc Ma.out _) 3).trans rfl,(blk_cell (blk_alloc Ma.out _) 4).trans rfl,(blk_cell (blk_alloc Ma.out _) 5).trans rfl,(blk_cell (blk_alloc Ua.out _) 0).trans rfl,(blk_cell (blk_alloc Ua.out _) 1).trans rfl,(blk_cell (blk_alloc Ua.out _) 2).trans rfl,(blk_cell (blk_alloc Ua.out _) 3).trans rfl,(blk_cell (blk_alloc Ua.out _) 4).trans rfl,(blk_cell (blk_alloc Ua.out _) 5).trans rfl⟩ (fun hHeld=>?_);clear hK K;refine nx_ (N:=some 25) ?_;refine oa_ 9 26 12 1023 HT_ (fun K hK=>?_);refine Kd.S_append_step k48 (w0:=w) w.heap.size (by rfl) (.tmp 18) (.tmp 25) 35 48 (.agg #[(.int .i64 0),(.int .i64 0),(.int .i64 0),(.int .i64 0),(.int .i64 0),(.slice none 0 0)]) 64 rfl Try.underlying35 info48 rfl (by decide) (by omega) u343005 Od (⟨(rd_T48 l0_5 Ja).f0,(⟨Oe,(⟨Ue,Xe,Jf⟩:S31),Ke⟩:S34)⟩:S48) [.int .i64 ((rd_T48 l0_5 Ja).f0),.int .i64 Oe,.int .i64 Ue,.int .i64 Xe,.int .i64 Jf,.slice Xg Ke.length Jh] (fun k_=>some k_≠(.slice Oc Mb.length Uc:Value).ownBlock∧k_≠Ka) (fun k_=>some k_=(.slice Xg Ke.length Jh:Value).ownBlock) rfl rfl ?aP (fun k_ hk_=>((Kd.R_mono (ok':=fun k_=>((fun k_=>some k_≠(.slice Oc Mb.length Uc:Value).ownBlock∧k_≠Ka)) k_∧some k_≠(u343005:Value).ownBlock) (Kd.R_types (Kd.R_apart' (Kf.out) (Kd.S_typed Kb.out) (by decide)) Ua.out (by decide)) (fun k_ hk=>⟨⟨hk.1.1.2,hk.2⟩,hk.1.2⟩))).1 k_ hk_.symm) ?aF ?aO ?aB ?aS ?aL ?_;(case aP=>exact k48_mkM _ _ _ (⟨(rd_T48 l0_5 Ja).f0,(⟨Oe,(⟨Ue,Xe,Jf⟩:S31),Ke⟩:S34)⟩:S48) (Kd.R_mono (Kd.R_tight rfl (Kd.R_mono (ok':=fun k_=>((fun k_=>some k_≠(.slice Oc Mb.length Uc:Value).ownBlock∧k_≠Ka)) k_∧some k_≠(u343005:Value).ownBlock) (Kd.R_types (Kd.R_apart' (Kf.out) (Kd.S_typed Kb.out) (by decide)) Ua.out (by decide)) (fun k_ hk=>⟨⟨hk.1.1.2,hk.2⟩,hk.1.2⟩))) (fun _ h_=>h_)));(case aB=>exact (pB_ HB.out));(case aF=>exact (fun k_ hk=>⟨Kd.fresh' (Kd.R_lt (pR_ Xb.out)) k_ hk,Kd.freshB (pk_ Ua.out) k_ hk⟩));(case aO=>exact (pS_ (Kd.S_mono Kb.out (fun k_ hk=>⟨⟨hk.1.1,hk.1.2⟩,fun e_=>hk.2 e_⟩))));(case aS=>exact (below_size (pB_ HB.out)));(case aL=>have:=LMc18.out;omega);intro Xs w28 ho hb hg hat;rw [← Ny352.out] at ho
       have n_:=an_ (Kd.R_over' (pR_ Xb.out) (Kd.S_typed (pS_ Kb.out)) (by decide) hg)<|an_ (blk_grown (pk_ Oa.out) hg (Kd.S_ne Kb.out Oa.out (by decide)))<|an_ (blk_grown (pk_ Xa.out) hg (Kd.S_ne Kb.out Xa.out (by decide)))<|an_ (blk_grown (pk_ Ma.out) hg (Kd.S_ne Kb.out Ma.out (by decide)))<|an_ (blk_grown (pk_ Ua.out) hg (Kd.S_away Kb.out (fun _ hk=>hk.1.2)))<|an_ (hb)<|Aside0.mk (ho)
       clear Xb Oa Xa Ma Ua HB Kb Kf;obtain ⟨Xb,Oa,Xa,Ma,Ua,HB,Kh⟩:=n_;clear ho hb hg hat;obtain ⟨Uf,Xf,eo29⟩:=Kd.S_slice Kh.out;(first|subst eo29|obtain ⟨rfl,rfl⟩:=sl_inj eo29);refine hK.out _ _ ⟨(blk_cell Ma.out 0).trans rfl,(blk_cell Ma.out 1).trans rfl,(blk_cell Ma.out 2).trans rfl,(blk_cell Ma.out 3).trans rfl,(blk_cell Ma.out 4).trans rfl,(blk_cell Ma.out 5).trans rfl,(blk_cell Ua.out 0).trans rfl,(blk_cell Ua.out 1).trans rfl,(blk_cell Ua.out 2).trans rfl,(blk_cell Ua.out 3).trans rfl,(blk_cell Ua.out 4).trans rfl,(blk_cell Ua.out 5).trans rfl⟩ (fun hHeld=>?_);clear hK K;refine nx_ (N:=some 26) ?_;refine pa_ 10 27 12 2047 HT_ ?_;refine last_ (i:=11) (N:=none) (bz 12 4095) rfl rfl (one_of HT_.out (by kernel_rfl)) (by decide) (fun K hK=>?_);have hs30:w28.cell? ⟨Jb,5,none⟩=some (u343005):=(blk_cell Ma.out 5).trans rfl;have hfs30:=blk_frozen Ma.out 5;have hns30_0:=Jd.out;have hns30_1:=Md.out;have hns30_3:=Ug.out;have hms30_0:=Mf.out;have hms30_1:=Of.out;have hms30_3:=Ud.out;refine skip_ (w1:=?_) (by rfl) rfl ?_ ?_;rotate_left
       ·go_simp
        rfl
       refine hK.out _ _ ?_; clear hK K; refine done_ (done_of HT_.out (by kernel_rfl)) ?_
       try go_wp2
       go_roundg k1
       case measure => have := HK1.out; omega
       case rel=>exact ⟨(wrap64 (Ja + 1)),(y352),(.slice Uf y352.length Xf),Z27,H',⟨by have:=HK1.out;omega⟩,⟨pR_ (Kd.R_mono (fr_ (Kd.R_types Xb.out Ma.out (by decide)) 5 (.slice Uf y352.length Xf)) (fun _ hk=>trivial))⟩,⟨pS_ (Kd.S_mono (Kd.S_far (p:=⟨Jb,5,none⟩) (Kd.S_types Kh.out Ma.out (by decide)) (fun _ hk=>hk.2) (.slice Uf y352.length Xf)) (fun _ hk=>hk.1.1))⟩,⟨by refine pk_ ?_;refine blk_far ?_ Jd.out _;refine pk_ ?_;exact Oa.out⟩,⟨by refine pk_ ?_;refine blk_far ?_ Md.out _;refine pk_ ?_;exact Xa.out⟩,⟨by refine pk_ ?_;refine blk_put (cs:=#[.int .i64 Ub,.int .i64 Jc,.int .i64 Kc,.int .i64 Xc,.slice Oc Mb.length Uc,u343005]) ?_ 5 _ rfl;refine pk_ ?_;exact Ma.out⟩,⟨pB_ HB.out⟩⟩
      ·rw [if_neg c18] at H
       exact absurd H (by simp)
     ·rw [if_neg c16] at H
      exact absurd H (by simp)
    ·rw [if_neg c15] at H
     exact absurd H (by simp)
   ·rw [if_neg c14] at H
    have c14b0:decide (Ja < (l0_5.length:Int))=false:=decide_eq_false c14;clear c14;simp only [Option.some.injEq,Prod.mk.injEq] at H;obtain ⟨rfl,rfl,rfl,rfl,rfl,rfl⟩:=H;(try have hnb31:=Mf.out);(try have hnc31:=Jd.out);(try have hnb32:=Of.out);(try have hnc32:=Md.out);obtain ⟨Ju,Ku,Mu,Ou,Uu,Xu,Jv,Kv,Mv,Ov,Uv,Xv⟩:=cells6 Ma.out;(try have hnb34:=Og.out);(try have hnc34:=Mg.out);obtain ⟨Jx,Kx,Mx,Ox,Ux,Xx,Jy,Ky,My,Oy,Uy,Xy⟩:=cells6 Xa.out;obtain ⟨Jg,Kg,eo36⟩:=Kd.S_slice Kb.out;subst eo36
    go_wp2
    refine bodyPost_ret (results_cell_row rfl _ _ Mc 37 #[.int .i64 Ub,.int .i64 Jc,.int .i64 Kc,.int .i64 Xc,.slice Oc Mb.length Uc,.slice Jg Od.length Kg] (0,0) _ rfl (by refine pk_ ?_;refine blk_put (cs:=#[.int .i64 Ub,.int .i64 Jc,.int .i64 Kc,.int .i64 Xc,.slice Oc Mb.length Uc,.slice none 0 0]) ?_ 5 _ rfl;refine pk_ ?_;refine blk_put (cs:=#[.int .i64 Ub,.int .i64 Jc,.int .i64 Kc,.int .i64 Xc,.slice none 0 0,.slice none 0 0]) ?_ 4 _ rfl;refine pk_ ?_;refine blk_put (cs:=#[.int .i64 Ub,.int .i64 Jc,.int .i64 Kc,.int .i64 0,.slice none 0 0,.slice none 0 0]) ?_ 3 _ rfl;refine pk_ ?_;refine blk_put (cs:=#[.int .i64 Ub,.int .i64 Jc,.int .i64 0,.int .i64 0,.slice none 0 0,.slice none 0 0]) ?_ 2 _ rfl;refine pk_ ?_;refine blk_put (cs:=#[.int .i64 Ub,.int .i64 0,.int .i64 0,.int .i64 0,.slice none 0 0,.slice none 0 0]) ?_ 1 _ rfl;refine pk_ ?_;refine blk_put (cs:=#[.int .i64 0,.int .i64 0,.int .i64 0,.int .i64 0,.slice none 0 0,.slice none 0 0]) ?_ 0 _ rfl;refine pk_ ?_;exact Xa.out) Try.underlying37 rfl (by kernel_rfl)) rfl ?_;exact ⟨_,_,by first|rfl|(simp [errW_none,errW_some] <;> rfl)|(simp [*,errW_none,errW_some] <;> rfl),by (with_reducible repeat (first|apply Kd.R_alloc|apply Kd.R_drewN|apply Kd.R_drew));exact Kd.R_mono (fr_ (fr_ (fr_ (fr_ (fr_ (fr_ (Kd.R_types Xb.out Xa.out (by decide)) 0 (.int .i64 Ub)) 1 (.int .i64 Jc)) 2 (.int .i64 Kc)) 3 (.int .i64 Xc)) 4 (.slice Oc Mb.length Uc)) 5 (.slice Jg Od.length Kg)) (fun _ hk=>trivial),by (with_reducible repeat (first|apply Kd.S_alloc|apply Kd.S_drewN|apply Kd.S_drew));exact Kd.S_mono (Kd.S_far (p:=⟨Mc,5,none⟩) (Kd.S_far (p:=⟨Mc,4,none⟩) (Kd.S_far (p:=⟨Mc,3,none⟩) (Kd.S_far (p:=⟨Mc,2,none⟩) (Kd.S_far (p:=⟨Mc,1,none⟩) (Kd.S_far (p:=⟨Mc,0,none⟩) (Kd.S_types Kb.out Xa.out (by decide)) (fun _ hk=>hk.2) (.int .i64 Ub)) (fun _ hk=>hk.2) (.int .i64 Jc)) (fun _ hk=>hk.2) (.int .i64 Kc)) (fun _ hk=>hk.2) (.int .i64 Xc)) (fun _ hk=>hk.2) (.slice Oc Mb.length Uc)) (fun _ hk=>hk.2) (.slice Jg Od.length Kg)) (fun _ hk=>hk.1),pB_ HB.out⟩

/-! ### impl_BaseOf: function 39 -/
def impl_BaseOf.f (a0_0 : Int) (a0_1 : Int) (a0_2 : Int) (a1 : Int) : Option (Int) := (impl_TagOk.f a0_0 a0_1 a0_2).bind fun Uo => (if Uo = true then ((impl_isDelta.f a1).bind fun Xo => (if Xo = true then ((impl_VecTop.f a0_0 a0_1 a0_2).bind fun Jp => (some (mx 0 (wrap64 (Jp - a1))))) else (some 0))) else (some 0))
set_option maxHeartbeats 8000000 in
set_option maxRecDepth 100000 in
theorem impl_BaseOf.calls (a0_0 : Int) (a0_1 : Int) (a0_2 : Int) (a1 : Int) (r : Int) (w : World) (h : impl_BaseOf.f a0_0 a0_1 a0_2 a1 = some r) :
  Calls Try.prog 39 #[.agg #[.int .i64 a0_0, .int .i64 a0_1, .int .i64 a0_2], .int .i64 a1] w fun e w' => e = .returned (.int .i64 r) ∧ Below w.heap.size w w' := by
 have hu31 := Try.underlying31
 have HB := Aside0.mk (Below.refl w.heap.size w)
 have H:((impl_TagOk.f a0_0 a0_1 a0_2).bind fun t356=>(if t356=true then ((impl_isDelta.f a1).bind fun t357=>(if t357=true then ((impl_VecTop.f a0_0 a0_1 a0_2).bind fun t358=>(some (mx 0 (wrap64 (t358 - a1))))) else (some 0))) else (some 0)))=some r:=h
 clear h
 obtain ⟨t356, A30, H⟩ := Option.bind_eq_some_iff.mp H
 (try dsimp only at H)
 have A3 := Aside0.mk A30
 clear A30
 by_cases c4 : t356 = true
 ·subst c4
  rw [if_pos rfl] at H;obtain ⟨t357,A50,H⟩:=Option.bind_eq_some_iff.mp H;(try dsimp only at H);have A5:=Aside0.mk A50;clear A50;have HU6:=Aside0.mk H;clear H;go_enter Try.func39,Try.ntmps39
  go_upto_if 12 with (first|((with_reducible refine gate_dst (N:=2) rfl ?_);refine box_event ?hg (N:=2) ?hd (cs:=#[.int .i64 a0_0,.int .i64 a0_1,.int .i64 a0_2]) (t:=31) ?hr ?_;(case hd=>rfl);(case hg=>rfl);(case hr=>first|(go_simp;done)|(go_simp;rfl));intro gb355 hg w7 hbox hb;have n_:=an_ (below_step (pB_ HB.out) hb)<|an_ (hbox)<|an_ ((by rw [hg];exact (below_size (pB_ HB.out)):w.heap.size≤gb355))<|Aside0.mk ((by rw [hg];exact (below_size (pB_ HB.out)):w.heap.size≤gb355));clear HB;obtain ⟨HB,BK355,GW355,GE355⟩:=n_;clear hb hbox hg;obtain ⟨hcz8_0,hcz8_1,hcz8_2,hfz8_0,hfz8_1,hfz8_2⟩:=cells3 BK355.out)|((with_reducible refine gate_callee (f:=57) rfl ?_);refine goesL_ (some 6) rfl rfl Try.func57 (by kernel_rfl) rfl #[.agg #[.int .i64 a0_0,.int .i64 a0_1,.int .i64 a0_2]] rfl Z8 ?_;(with_reducible refine (impl_TagOk.calls a0_0 a0_1 a0_2 true _ A3.out).mono ?_);rintro e w9 ⟨rfl,hb⟩;refine ⟨_,rfl,?_⟩;have n_:=an_ (blk_below (pk_ BK355.out) hb)<|Aside0.mk (below_step (pB_ HB.out) hb);clear BK355 HB;obtain ⟨BK355,HB⟩:=n_;(try clear hb);(try clear hb2);(try clear hk);(try clear hi))|(go_at_call 58;(with_reducible refine (impl_isDelta.calls a1 t357 _ A5.out).mono ?_);rintro e w' ⟨rfl,⟨nd,rfl⟩⟩))
  have H := HU6.out; clear HU6
  by_cases c10 : t357 = true
  ·subst c10
   rw [if_pos rfl] at H;obtain ⟨t358,A110,H⟩:=Option.bind_eq_some_iff.mp H;(try dsimp only at H);have A11:=Aside0.mk A110;clear A110;obtain ⟨ji12,hji12⟩:∃ j_:Int,(mx 0 (wrap64 (t358 - a1)))=j_:=⟨_,rfl⟩
   replace H : (some ji12) = some r := by first | (rw [hji12] at H; exact H) | (simp only [hji12] at H ⊢; exact H)
   (try rw [hji12] at A11);(try (have hji12l:0≤ji12:=by (rw [← hji12];unfold mx;(repeat' split) <;> omega)));(try (have hji12m:0≤ji12:=by omega));have hji12_:(if 0 < (wrap64 (t358 - a1)) then (wrap64 (t358 - a1)) else 0)=ji12:=hji12;obtain rfl:=Option.some.inj H;obtain ⟨hcz13_0,hcz13_1,hcz13_2,hfz13_0,hfz13_1,hfz13_2⟩:=cells3 BK355.out
   go_wp2_with (first|((with_reducible refine gate_callee (f:=53) rfl ?_);refine goesL_ (some 14) rfl rfl Try.func53 (by kernel_rfl) rfl #[.agg #[.int .i64 a0_0,.int .i64 a0_1,.int .i64 a0_2]] rfl Z8 ?_;(with_reducible refine (impl_VecTop.calls a0_0 a0_1 a0_2 t358 _ A11.out).mono ?_);rintro e w14 ⟨rfl,hb⟩;refine ⟨_,rfl,?_⟩;have n_:=an_ (blk_below (pk_ BK355.out) hb)<|Aside0.mk (below_step (pB_ HB.out) hb);clear BK355 HB;obtain ⟨BK355,HB⟩:=n_;(try clear hb);(try clear hb2);(try clear hk);(try clear hi)))
   go_ret;exact ⟨by first|rfl|(simp [errW_none,errW_some] <;> rfl)|(simp only [← hji12];first|rfl|(simp [errW_none,errW_some] <;> rfl))|(simp [*,errW_none,errW_some] <;> rfl),pB_ HB.out⟩
  ·replace c10 := Bool.eq_false_iff.mpr c10
   subst c10; rw [if_neg (show ¬ (false = true) by decide)] at H; obtain rfl := Option.some.inj H
   go_wp2
   go_ret; exact ⟨by first | rfl | (simp [errW_none, errW_some] <;> rfl) | (simp [*, errW_none, errW_some] <;> rfl), pB_ HB.out⟩
 ·replace c4 := Bool.eq_false_iff.mpr c4
  subst c4; rw [if_neg (show ¬ (false = true) by decide)] at H; obtain rfl := Option.some.inj H; go_enter Try.func39, Try.ntmps39
  go_wp2_with (first|((with_reducible refine gate_dst (N:=2) rfl ?_);refine box_event ?hg (N:=2) ?hd (cs:=#[.int .i64 a0_0,.int .i64 a0_1,.int .i64 a0_2]) (t:=31) ?hr ?_;(case hd=>rfl);(case hg=>rfl);(case hr=>first|(go_simp;done)|(go_simp;rfl));intro gb355 hg w15 hbox hb;have n_:=an_ (below_step (pB_ HB.out) hb)<|an_ (hbox)<|an_ ((by rw [hg];exact (below_size (pB_ HB.out)):w.heap.size≤gb355))<|Aside0.mk ((by rw [hg];exact (below_size (pB_ HB.out)):w.heap.size≤gb355));clear HB;obtain ⟨HB,BK355,GW355,GE355⟩:=n_;clear hb hbox hg;obtain ⟨hcz16_0,hcz16_1,hcz16_2,hfz16_0,hfz16_1,hfz16_2⟩:=cells3 BK355.out)|((with_reducible refine gate_callee (f:=57) rfl ?_);refine goesL_ (some 6) rfl rfl Try.func57 (by kernel_rfl) rfl #[.agg #[.int .i64 a0_0,.int .i64 a0_1,.int .i64 a0_2]] rfl Z8 ?_;(with_reducible refine (impl_TagOk.calls a0_0 a0_1 a0_2 false _ A3.out).mono ?_);rintro e w17 ⟨rfl,hb⟩;refine ⟨_,rfl,?_⟩;have n_:=an_ (blk_below (pk_ BK355.out) hb)<|Aside0.mk (below_step (pB_ HB.out) hb);clear BK355 HB;obtain ⟨BK355,HB⟩:=n_;(try clear hb);(try clear hb2);(try clear hk);(try clear hi)))
  go_ret; exact ⟨by first | rfl | (simp [errW_none, errW_some] <;> rfl) | (simp [*, errW_none, errW_some] <;> rfl), pB_ HB.out⟩

/-! ### impl_Vec_each: function 60 -/
def impl_Vec_each.f (a0_0 : Int) (a0_1 : Int) (a0_2 : Int) (a1 : (Int → Option (Int))) : Option (Int × Int × Int) := (a1 a0_0).bind fun t361 => ((a1 a0_1).bind fun t362 => ((a1 a0_2).bind fun t363 => (some (t361, t362, t363))))
def impl_Vec_each.T1 : Bool × List (List Nat × List Nat) := (true, [([], []), ([], []), ([1], [1]), ([0, 2], [0, 2]), ([], []), ([], []), ([5], [5]), ([4, 6, 3], [4, 6]), ([], []), ([], []), ([9], [9]), ([8, 10, 7], [8, 10]), ([3, 7, 11], [3, 7, 11]), ([12, 11, 0, 1, 2, 3, 4, 5, 6, 7, 8, 9, 10, 11, 12], [12])])
def impl_Vec_each.B1 : List Nat := [0, 0, 2, 7, 0, 0, 32, 127, 0, 0, 512, 2047, 4095, 8191]
theorem impl_Vec_each.tab1 : rtab .any (opsOf Try.f60 1) = impl_Vec_each.T1 := by kernel_rfl
theorem impl_Vec_each.bits1 : waitsOk impl_Vec_each.T1.2 impl_Vec_each.B1 = true := by kernel_rfl
set_option maxHeartbeats 8000000 in
set_option maxRecDepth 100000 in
theorem impl_Vec_each.calls (a0_0 : Int) (a0_1 : Int) (a0_2 : Int) (a1 : (Int → Option (Int))) (fn1 : Nat) (cp1 : Array Value) (r1 : Int) (r2 : Int) (r3 : Int) (w : World) (hq1 : Aside0 (∃ F_, Try.prog.funcs[fn1]? = some F_ ∧ (F_.name == "runtime.NumGoroutine") = false ∧ F_.body.isSome = true)) (HP1_60 : Aside0 (∀ (a900 : Int) (rr0_ : Int) (W_ : World), Below w.heap.size w W_ → a1 a900 = some rr0_ → Calls Try.prog fn1 (#[.int .i64 a900] ++ cp1) W_ (fun e w' => e = .returned (.int .i64 rr0_) ∧ Below W_.heap.size W_ w'))) (h : impl_Vec_each.f a0_0 a0_1 a0_2 a1 = some (r1, r2, r3)) :
  Calls Try.prog 60 #[.agg #[.int .i64 a0_0,.int .i64 a0_1,.int .i64 a0_2],.func (.func fn1) #[] cp1] w fun e w'=>e=.returned (.agg #[.int .i64 r1,.int .i64 r2,.int .i64 r3])∧Below w.heap.size w w':=by
 have hu31 := Try.underlying31
 have HB := Aside0.mk (Below.refl w.heap.size w)
 have H : ((a1 a0_0).bind fun t361 => ((a1 a0_1).bind fun t362 => ((a1 a0_2).bind fun t363 => (some (t361, t362, t363))))) = some (r1, r2, r3) := h
 clear h
 obtain ⟨t361, A30, H⟩ := Option.bind_eq_some_iff.mp H
 (try dsimp only at H)
 have A3 := Aside0.mk A30
 clear A30
 obtain ⟨t362, A40, H⟩ := Option.bind_eq_some_iff.mp H
 (try dsimp only at H)
 have A4 := Aside0.mk A40
 clear A40
 obtain ⟨t363, A50, H⟩ := Option.bind_eq_some_iff.mp H
 (try dsimp only at H)
 have A5 := Aside0.mk A50
 clear A50
 simp only [Option.some.injEq, Prod.mk.injEq] at H
 obtain ⟨rfl, rfl, rfl⟩ := H
 go_enter Try.func60, Try.ntmps60
 try go_wp2_with (first|((with_reducible refine gate_dst (N:=2) rfl ?_);refine box_event ?hg (N:=2) ?hd (cs:=#[.int .i64 a0_0,.int .i64 a0_1,.int .i64 a0_2]) (t:=31) ?hr ?_;(case hd=>rfl);(case hg=>rfl);(case hr=>first|(go_simp;done)|(go_simp;rfl));intro gb359 hg w6 hbox hb;have n_:=an_ (below_step (pB_ HB.out) hb)<|an_ (hbox)<|an_ ((by rw [hg];exact (below_size (pB_ HB.out)):w.heap.size≤gb359))<|Aside0.mk ((by rw [hg];exact (below_size (pB_ HB.out)):w.heap.size≤gb359));clear HB;obtain ⟨HB,BK359,GW359,GE359⟩:=n_;clear hb hbox hg)|((with_reducible refine gate_dst (N:=4) rfl ?_);refine box_event ?hg (N:=4) ?hd (cs:=#[.int .i64 0,.int .i64 0,.int .i64 0]) (t:=31) ?hr ?_;(case hd=>rfl);(case hg=>rfl);(case hr=>first|(go_simp;done)|(go_simp;rfl));intro gb360 hg w7 hbox hb;have n_:=an_ (blk_below (pk_ BK359.out) hb)<|an_ (below_step (pB_ HB.out) hb)<|an_ (hbox)<|an_ ((by rw [hg];exact (below_size (pB_ HB.out)):w.heap.size≤gb360))<|an_ ((by rw [hg];exact (below_size (pB_ HB.out)):w.heap.size≤gb360))<|an_ ((by rw [hg];exact Nat.ne_of_lt (blk_lt (pk_ BK359.out)):gb359≠gb360))<|Aside0.mk ((by rw [hg];exact Nat.ne_of_gt (blk_lt (pk_ BK359.out)):gb360≠gb359));clear BK359 HB;obtain ⟨BK359,HB,BK360,GW360,GE360,NB359_360,NB360_359⟩:=n_;clear hb hbox hg))
 have n_ := an_ (blk_drew BK359.out) <| an_ (blk_drew BK360.out) <| Aside0.mk (below_drew1 HB.out)
 clear BK359 BK360 HB
 obtain ⟨BK359, BK360, HB⟩ := n_
 refine start_ (n:=14) (S:=fun w'=>w'.cell? ⟨gb359,0,none⟩=some (.int .i64 a0_0)∧w'.cell? ⟨gb359,1,none⟩=some (.int .i64 a0_1)∧w'.cell? ⟨gb359,2,none⟩=some (.int .i64 a0_2)) (ds:=[]) (bz 14 0) (by kernel_rfl) rfl (by kernel_rfl) ⟨(blk_cell BK359.out 0).trans rfl,(blk_cell BK359.out 1).trans rfl,(blk_cell BK359.out 2).trans rfl⟩ (fun hHeld=>?_);refine with_tabW impl_Vec_each.tab1 impl_Vec_each.bits1 (fun HT_ HW_=>?_)
 generalize w7.drew = w8 at BK359 BK360 HB hHeld ⊢
 refine pa_ 0 5 14 1 HT_ ?_
 refine pa_ 1 6 14 3 HT_ ?_
 refine pa_ 4 9 14 19 HT_ ?_
 refine pa_ 5 10 14 51 HT_ ?_
 refine pa_ 8 13 14 307 HT_ ?_
 refine pa_ 9 14 14 819 HT_ ?_
 refine ta_ 2 7 14 823 HT_ HW_ rfl rfl hHeld Z25 ?_
 refine ta_ 6 11 14 887 HT_ HW_ rfl rfl hHeld Z25 ?_
 refine ta_ 10 15 14 1911 HT_ HW_ rfl rfl hHeld Z25 ?_
 refine oa_ 3 8 14 1919 HT_ (fun K hK => ?_)
 obtain ⟨_, hF1_, hF2_, hF3_⟩ := hq1.out
 refine goesV_ hF1_ hF2_ hF3_ #[.int .i64 a0_0] (cp := cp1) (by rfl) rfl rfl Z28 Z8 ?_
 with_reducible refine (HP1_60.out a0_0 t361 _ ?side1 A3.out).mono ?_
 (case side1 => exact pB_ HB.out)
 rintro e w9 ⟨rfl, hb⟩
 refine ⟨_, rfl, ?_⟩
 have n_ := an_ (blk_below (pk_ BK359.out) hb) <| an_ (blk_below (pk_ BK360.out) hb) <| Aside0.mk (below_step (pB_ HB.out) hb)
 clear BK359 BK360 HB
 obtain ⟨BK359, BK360, HB⟩ := n_
 (try clear hb)
 (try clear hb2)
 (try clear hk)
 (try clear hi)
 refine hK.out _ _ ⟨(blk_cell BK359.out 0).trans rfl, (blk_cell BK359.out 1).trans rfl, (blk_cell BK359.out 2).trans rfl⟩ (fun hHeld => ?_)
 clear hK K
 refine nx_ (N := some 8) ?_
 refine oa_ 7 12 14 2047 HT_ (fun K hK => ?_)
 obtain ⟨_, hF1_, hF2_, hF3_⟩ := hq1.out
 refine goesV_ hF1_ hF2_ hF3_ #[.int .i64 a0_1] (cp := cp1) (by rfl) rfl rfl Z28 Z8 ?_
 with_reducible refine (HP1_60.out a0_1 t362 _ ?side1 A4.out).mono ?_
 (case side1 => exact pB_ HB.out)
 rintro e w10 ⟨rfl, hb⟩
 refine ⟨_, rfl, ?_⟩
 have n_ := an_ (blk_below (pk_ BK359.out) hb) <| an_ (blk_below (pk_ BK360.out) hb) <| Aside0.mk (below_step (pB_ HB.out) hb)
 clear BK359 BK360 HB
 obtain ⟨BK359, BK360, HB⟩ := n_
 (try clear hb)
 (try clear hb2)
 (try clear hk)
 (try clear hi)
 refine hK.out _ _ ⟨(blk_cell BK359.out 0).trans rfl, (blk_cell BK359.out 1).trans rfl, (blk_cell BK359.out 2).trans rfl⟩ (fun hHeld => ?_)
 clear hK K
 refine nx_ (N := some 12) ?_
 refine oa_ 11 16 14 4095 HT_ (fun K hK => ?_)
 obtain ⟨_, hF1_, hF2_, hF3_⟩ := hq1.out
 refine goesV_ hF1_ hF2_ hF3_ #[.int .i64 a0_2] (cp := cp1) (by rfl) rfl rfl Z28 Z8 ?_
 with_reducible refine (HP1_60.out a0_2 t363 _ ?side1 A5.out).mono ?_
 (case side1 => exact pB_ HB.out)
 rintro e w11 ⟨rfl, hb⟩
 refine ⟨_, rfl, ?_⟩
 have n_ := an_ (blk_below (pk_ BK359.out) hb) <| an_ (blk_below (pk_ BK360.out) hb) <| Aside0.mk (below_step (pB_ HB.out) hb)
 clear BK359 BK360 HB
 obtain ⟨BK359, BK360, HB⟩ := n_
 (try clear hb)
 (try clear hb2)
 (try clear hk)
 (try clear hi)
 refine hK.out _ _ ⟨(blk_cell BK359.out 0).trans rfl, (blk_cell BK359.out 1).trans rfl, (blk_cell BK359.out 2).trans rfl⟩ (fun hHeld => ?_)
 clear hK K
 refine nx_ (N := some 16) ?_
 refine pa_ 12 17 14 8191 HT_ ?_
 refine one_ (i := 13) (N := none) (bz 14 16383) rfl rfl (one_of HT_.out (by kernel_rfl)) (by decide) (fun K hK => ?_)
 have hs12 : w11.cell? ⟨gb360, 0, none⟩ = some (.int .i64 0) := (blk_cell BK360.out 0).trans rfl
 have hfs12 := blk_frozen BK360.out 0
 have hns12_0 := NB359_360.out
 have hms12_0 := NB360_359.out
 have hs13 : w11.cell? ⟨gb360, 1, none⟩ = some (.int .i64 0) := (blk_cell BK360.out 1).trans rfl
 have hfs13 := blk_frozen BK360.out 1
 have hns13_0 := NB359_360.out
 have hms13_0 := NB360_359.out
 have hs14 : w11.cell? ⟨gb360, 2, none⟩ = some (.int .i64 0) := (blk_cell BK360.out 2).trans rfl
 have hfs14 := blk_frozen BK360.out 2
 have hns14_0 := NB359_360.out
 have hms14_0 := NB360_359.out
 refine skip_ (w1 := ?_) (by rfl) rfl ?_ ?_
 rotate_left
 ·go_simp
  rfl
 refine hK.out _ _ ⟨((cell_far (p:=⟨gb360,_,none⟩) NB359_360.out _).trans (((cell_far (p:=⟨gb360,_,none⟩) NB359_360.out _).trans (((cell_far (p:=⟨gb360,_,none⟩) NB359_360.out _).trans (hHeld.1)))))),((cell_far (p:=⟨gb360,_,none⟩) NB359_360.out _).trans (((cell_far (p:=⟨gb360,_,none⟩) NB359_360.out _).trans (((cell_far (p:=⟨gb360,_,none⟩) NB359_360.out _).trans (hHeld.2.1)))))),((cell_far (p:=⟨gb360,_,none⟩) NB359_360.out _).trans (((cell_far (p:=⟨gb360,_,none⟩) NB359_360.out _).trans (((cell_far (p:=⟨gb360,_,none⟩) NB359_360.out _).trans (hHeld.2.2))))))⟩ (fun hHeld=>?_)
 clear hK K
 refine done_ (done_of HT_.out (by kernel_rfl)) ?_
 try go_wp2
 refine bodyPost_ret (results_cell_row rfl _ _ gb360 31 #[.int .i64 t361,.int .i64 t362,.int .i64 t363] (0,0) _ rfl (by refine pk_ ?_;refine blk_put (cs:=#[.int .i64 t361,.int .i64 t362,.int .i64 0]) ?_ 2 _ rfl;refine pk_ ?_;refine blk_put (cs:=#[.int .i64 t361,.int .i64 0,.int .i64 0]) ?_ 1 _ rfl;refine pk_ ?_;refine blk_put (cs:=#[.int .i64 0,.int .i64 0,.int .i64 0]) ?_ 0 _ rfl;refine pk_ ?_;exact BK360.out) Try.underlying31 rfl (by kernel_rfl)) rfl ?_
 exact ⟨by first | rfl | (simp [errW_none, errW_some] <;> rfl) | (simp [*, errW_none, errW_some] <;> rfl), pB_ HB.out⟩

/-! ### impl_Lower_1: function 61 -/
def impl_Lower_1.f (a0 : Int) (a1_0 : Int) : Option (Int) := some (mx 0 (wrap64 (a0 - a1_0)))
set_option maxHeartbeats 8000000 in
set_option maxRecDepth 100000 in
theorem impl_Lower_1.calls (a0 : Int) (gc1 : Nat) (a1_0 : Int) (r : Int) (w : World) (hbx1 : w.heap[gc1]? = some (.cells #[.int .i64 a1_0] 3 (0, 0))) (h : impl_Lower_1.f a0 a1_0 = some r) :
  Calls Try.prog 61 #[.int .i64 a0, .pointer (some ⟨gc1, 0, none⟩)] w fun e w' => e = .returned (.int .i64 r) ∧ Below w.heap.size w w' := by
 have BK1 := Aside0.mk hbx1
 clear hbx1
 have HB := Aside0.mk (Below.refl w.heap.size w)
 have H : (some (mx 0 (wrap64 (a0 - a1_0)))) = some r := h
 clear h
 obtain ⟨ji3, hji3⟩ : ∃ j_ : Int, (mx 0 (wrap64 (a0 - a1_0))) = j_ := ⟨_, rfl⟩
 replace H : (some ji3) = some r := by first | (rw [hji3] at H; exact H) | (simp only [hji3] at H ⊢; exact H)
 (try (have hji3l : 0 ≤ ji3 := by (rw [← hji3]; unfold mx; (repeat' split) <;> omega)))
 (try (have hji3m : 0 ≤ ji3 := by omega))
 have hji3_ : (if 0 < (wrap64 (a0 - a1_0)) then (wrap64 (a0 - a1_0)) else 0) = ji3 := hji3
 obtain rfl := Option.some.inj H
 obtain ⟨hcz4_0, hfz4_0⟩ := cells1 BK1.out
 go_enter Try.func61, Try.ntmps61
 go_wp2
 go_ret
 exact ⟨by first | rfl | (simp [errW_none, errW_some] <;> rfl) | (simp only [← hji3]; first | rfl | (simp [errW_none, errW_some] <;> rfl)) | (simp [*, errW_none, errW_some] <;> rfl), pB_ HB.out⟩

/-! ### impl_Lower: function 40 -/
def impl_Lower.f (a0_0 : Int) (a0_1 : Int) (a0_2 : Int) (a1 : Int) : Option (Int × Int × Int) := (impl_TagOk.f a0_0 a0_1 a0_2).bind fun t367 => (if t367 = true then ((impl_within.f a1 0 1000000000000).bind fun t368 => (if t368 = true then ((impl_Vec_each.f a0_0 a0_1 a0_2 (fun z0_ => impl_Lower_1.f z0_ a1)).bind fun bt369 => (some (bt369.1, bt369.2.1, bt369.2.2))) else (some (0, 0, 0)))) else (some (0, 0, 0)))
set_option maxHeartbeats 8000000 in
set_option maxRecDepth 100000 in
theorem impl_Lower.calls (a0_0 : Int) (a0_1 : Int) (a0_2 : Int) (a1 : Int) (r1 : Int) (r2 : Int) (r3 : Int) (w : World) (h : impl_Lower.f a0_0 a0_1 a0_2 a1 = some (r1, r2, r3)) :
  Calls Try.prog 40 #[.agg #[.int .i64 a0_0,.int .i64 a0_1,.int .i64 a0_2],.int .i64 a1] w fun e w'=>e=.returned (.agg #[.int .i64 r1,.int .i64 r2,.int .i64 r3])∧Below w.heap.size w w':=by
 have hu31 := Try.underlying31
 have hmf : ∀ (fn : Fn) (first cap : Array Value) (w : World), (Instr.makeFunc fn first cap).run Try.prog w = .ok (.func fn first cap) w := fun _ _ _ _ => rfl
 have HB := Aside0.mk (Below.refl w.heap.size w)
 have H:((impl_TagOk.f a0_0 a0_1 a0_2).bind fun t367=>(if t367=true then ((impl_within.f a1 0 1000000000000).bind fun t368=>(if t368=true then ((impl_Vec_each.f a0_0 a0_1 a0_2 (fun z0_=>impl_Lower_1.f z0_ a1)).bind fun bt369=>(some (bt369.1,bt369.2.1,bt369.2.2))) else (some (0,0,0)))) else (some (0,0,0))))=some (r1,r2,r3):=h
 clear h
 obtain ⟨t367, A30, H⟩ := Option.bind_eq_some_iff.mp H
 (try dsimp only at H)
 have A3 := Aside0.mk A30
 clear A30
 by_cases c4 : t367 = true
 ·subst c4
  rw [if_pos rfl] at H;obtain ⟨t368,A50,H⟩:=Option.bind_eq_some_iff.mp H;(try dsimp only at H);have A5:=Aside0.mk A50;clear A50;have HU6:=Aside0.mk H;clear H;go_enter Try.func40,Try.ntmps40
  go_upto_if 12 with (first|((with_reducible refine gate_dst (N:=2) rfl ?_);refine box_event ?hg (N:=2) ?hd (cs:=#[.int .i64 a0_0,.int .i64 a0_1,.int .i64 a0_2]) (t:=31) ?hr ?_;(case hd=>rfl);(case hg=>rfl);(case hr=>first|(go_simp;done)|(go_simp;rfl));intro gb364 hg w7 hbox hb;have n_:=an_ (below_step (pB_ HB.out) hb)<|an_ (hbox)<|an_ ((by rw [hg];exact (below_size (pB_ HB.out)):w.heap.size≤gb364))<|Aside0.mk ((by rw [hg];exact (below_size (pB_ HB.out)):w.heap.size≤gb364));clear HB;obtain ⟨HB,BK364,GW364,GE364⟩:=n_;clear hb hbox hg)|((with_reducible refine gate_dst (N:=3) rfl ?_);refine box_event ?hg (N:=3) ?hd (cs:=#[.int .i64 a1]) (t:=3) ?hr ?_;(case hd=>rfl);(case hg=>rfl);(case hr=>first|(go_simp;done)|(go_simp;rfl));intro gb365 hg w8 hbox hb;have n_:=an_ (blk_below (pk_ BK364.out) hb)<|an_ (below_step (pB_ HB.out) hb)<|an_ (hbox)<|an_ ((by rw [hg];exact (below_size (pB_ HB.out)):w.heap.size≤gb365))<|an_ ((by rw [hg];exact (below_size (pB_ HB.out)):w.heap.size≤gb365))<|an_ ((by rw [hg];exact Nat.ne_of_lt (blk_lt (pk_ BK364.out)):gb364≠gb365))<|Aside0.mk ((by rw [hg];exact Nat.ne_of_gt (blk_lt (pk_ BK364.out)):gb365≠gb364));clear BK364 HB;obtain ⟨BK364,HB,BK365,GW365,GE365,NB364_365,NB365_364⟩:=n_;clear hb hbox hg)|((with_reducible refine gate_dst (N:=4) rfl ?_);refine box_event ?hg (N:=4) ?hd (cs:=#[.int .i64 0,.int .i64 0,.int .i64 0]) (t:=31) ?hr ?_;(case hd=>rfl);(case hg=>rfl);(case hr=>first|(go_simp;done)|(go_simp;rfl));intro gb366 hg w9 hbox hb;have n_:=an_ (blk_below (pk_ BK364.out) hb)<|an_ (blk_below (pk_ BK365.out) hb)<|an_ (below_step (pB_ HB.out) hb)<|an_ (hbox)<|an_ ((by rw [hg];exact (below_size (pB_ HB.out)):w.heap.size≤gb366))<|an_ ((by rw [hg];exact (below_size (pB_ HB.out)):w.heap.size≤gb366))<|an_ ((by rw [hg];exact Nat.ne_of_lt (blk_lt (pk_ BK364.out)):gb364≠gb366))<|an_ ((by rw [hg];exact Nat.ne_of_gt (blk_lt (pk_ BK364.out)):gb366≠gb364))<|an_ ((by rw [hg];exact Nat.ne_of_lt (blk_lt (pk_ BK365.out)):gb365≠gb366))<|Aside0.mk ((by rw [hg];exact Nat.ne_of_gt (blk_lt (pk_ BK365.out)):gb366≠gb365));clear BK364 BK365 HB;obtain ⟨BK364,BK365,HB,BK366,GW366,GE366,NB364_366,NB366_364,NB365_366,NB366_365⟩:=n_;clear hb hbox hg;(try have hnb10:=NB364_365.out);(try have hnc10:=NB365_364.out);(try have hnb11:=NB364_366.out);(try have hnc11:=NB366_364.out);obtain ⟨hcz12_0,hcz12_1,hcz12_2,hfz12_0,hfz12_1,hfz12_2⟩:=cells3 BK364.out)|((with_reducible refine gate_callee (f:=57) rfl ?_);refine goesL_ (some 6) rfl rfl Try.func57 (by kernel_rfl) rfl #[.agg #[.int .i64 a0_0,.int .i64 a0_1,.int .i64 a0_2]] rfl Z8 ?_;(with_reducible refine (impl_TagOk.calls a0_0 a0_1 a0_2 true _ A3.out).mono ?_);rintro e w13 ⟨rfl,hb⟩;refine ⟨_,rfl,?_⟩;have n_:=an_ (blk_below (pk_ BK364.out) hb)<|an_ (blk_below (pk_ BK365.out) hb)<|an_ (blk_below (pk_ BK366.out) hb)<|Aside0.mk (below_step (pB_ HB.out) hb);clear BK364 BK365 BK366 HB;obtain ⟨BK364,BK365,BK366,HB⟩:=n_;(try clear hb);(try clear hb2);(try clear hk);(try clear hi);(try have hnb14:=NB365_366.out);(try have hnc14:=NB366_365.out);obtain ⟨hcz15_0,hfz15_0⟩:=cells1 BK365.out)|(go_at_call 59;(with_reducible refine (impl_within.calls a1 0 1000000000000 t368 _ A5.out).mono ?_);rintro e w' ⟨rfl,⟨nd,rfl⟩⟩))
  have H := HU6.out; clear HU6
  by_cases c16 : t368 = true
  ·subst c16
   rw [if_pos rfl] at H;obtain ⟨⟨t369,t370,t371⟩,A170,H⟩:=Option.bind_eq_some_iff.mp H;(try dsimp only at H);have A17:=Aside0.mk A170;clear A170;simp only [Option.some.injEq,Prod.mk.injEq] at H;obtain ⟨rfl,rfl,rfl⟩:=H;(try have hnb18:=NB364_365.out);(try have hnc18:=NB365_364.out);(try have hnb19:=NB364_366.out);(try have hnc19:=NB366_364.out);obtain ⟨hcz20_0,hcz20_1,hcz20_2,hfz20_0,hfz20_1,hfz20_2⟩:=cells3 BK364.out
   go_wp2_with (first|((with_reducible refine gate_callee (f:=60) rfl ?_);refine goesL_ (some 16) rfl rfl Try.func60 (by kernel_rfl) rfl #[.agg #[.int .i64 a0_0,.int .i64 a0_1,.int .i64 a0_2],.func (.func 61) #[] #[.pointer (some ⟨gb365,0,none⟩)]] rfl Z8 ?_;(with_reducible refine (impl_Vec_each.calls a0_0 a0_1 a0_2 (fun z0_=>impl_Lower_1.f z0_ a1) 61 #[.pointer (some ⟨gb365,0,none⟩)] t369 t370 t371 _ ?side1 ?side2 A17.out).mono ?_);(case side1=>exact ⟨⟨_,Try.func61,by kernel_rfl,rfl⟩⟩);(case side2=>refine ⟨?_⟩;intro a900 rr0_ W_ hW_ h_;refine calls_of_args (args':=#[.int .i64 a900,.pointer (some ⟨gb365,0,none⟩)]) (by simp) ?_;refine (impl_Lower_1.calls a900 gb365 a1 rr0_ W_ (blk_below (pk_ BK365.out) hW_) h_).mono ?_;rintro e w' ⟨rfl,hd_⟩;exact ⟨rfl,hd_⟩);rintro e w21 ⟨rfl,hb⟩;refine ⟨_,rfl,?_⟩;have n_:=an_ (blk_below (pk_ BK364.out) hb)<|an_ (blk_below (pk_ BK365.out) hb)<|an_ (blk_below (pk_ BK366.out) hb)<|Aside0.mk (below_step (pB_ HB.out) hb);clear BK364 BK365 BK366 HB;obtain ⟨BK364,BK365,BK366,HB⟩:=n_;(try clear hb);(try clear hb2);(try clear hk);(try clear hi);(try have hnb22:=NB366_365.out);(try have hnc22:=NB365_366.out);obtain ⟨hcz23_0,hcz23_1,hcz23_2,hfz23_0,hfz23_1,hfz23_2⟩:=cells3 BK366.out))
   refine bodyPost_ret (results_cell_row rfl _ _ gb366 31 #[.int .i64 t369,.int .i64 t370,.int .i64 t371] (0,0) _ rfl (by refine pk_ ?_;refine blk_put (cs:=#[.int .i64 t369,.int .i64 t370,.int .i64 0]) ?_ 2 _ rfl;refine pk_ ?_;refine blk_put (cs:=#[.int .i64 t369,.int .i64 0,.int .i64 0]) ?_ 1 _ rfl;refine pk_ ?_;refine blk_put (cs:=#[.int .i64 0,.int .i64 0,.int .i64 0]) ?_ 0 _ rfl;refine pk_ ?_;exact BK366.out) Try.underlying31 rfl (by kernel_rfl)) rfl ?_;exact ⟨by first|rfl|(simp [errW_none,errW_some] <;> rfl)|(simp [*,errW_none,errW_some] <;> rfl),pB_ HB.out⟩
  ·replace c16 := Bool.eq_false_iff.mpr c16
   subst c16;rw [if_neg (show ¬ (false=true) by decide)] at H;simp only [Option.some.injEq,Prod.mk.injEq] at H;obtain ⟨rfl,rfl,rfl⟩:=H;(try have hnb24:=NB366_364.out);(try have hnc24:=NB364_366.out);(try have hnb25:=NB366_365.out);(try have hnc25:=NB365_366.out);obtain ⟨hcz26_0,hcz26_1,hcz26_2,hfz26_0,hfz26_1,hfz26_2⟩:=cells3 BK366.out
   go_wp2
   refine bodyPost_ret (results_cell_row rfl _ _ gb366 31 #[.int .i64 0,.int .i64 0,.int .i64 0] (0,0) _ rfl Z2 Try.underlying31 rfl (by kernel_rfl)) rfl ?_;exact ⟨by first|rfl|(simp [errW_none,errW_some] <;> rfl)|(simp [*,errW_none,errW_some] <;> rfl),pB_ HB.out⟩
 ·replace c4 := Bool.eq_false_iff.mpr c4
  subst c4; rw [if_neg (show ¬ (false = true) by decide)] at H; simp only [Option.some.injEq, Prod.mk.injEq] at H; obtain ⟨rfl, rfl, rfl⟩ := H; go_enter Try.func40, Try.ntmps40
  go_wp2_with (first|((with_reducible refine gate_dst (N:=2) rfl ?_);refine box_event ?hg (N:=2) ?hd (cs:=#[.int .i64 a0_0,.int .i64 a0_1,.int .i64 a0_2]) (t:=31) ?hr ?_;(case hd=>rfl);(case hg=>rfl);(case hr=>first|(go_simp;done)|(go_simp;rfl));intro gb364 hg w27 hbox hb;have n_:=an_ (below_step (pB_ HB.out) hb)<|an_ (hbox)<|an_ ((by rw [hg];exact (below_size (pB_ HB.out)):w.heap.size≤gb364))<|Aside0.mk ((by rw [hg];exact (below_size (pB_ HB.out)):w.heap.size≤gb364));clear HB;obtain ⟨HB,BK364,GW364,GE364⟩:=n_;clear hb hbox hg)|((with_reducible refine gate_dst (N:=3) rfl ?_);refine box_event ?hg (N:=3) ?hd (cs:=#[.int .i64 a1]) (t:=3) ?hr ?_;(case hd=>rfl);(case hg=>rfl);(case hr=>first|(go_simp;done)|(go_simp;rfl));intro gb365 hg w28 hbox hb;have n_:=an_ (blk_below (pk_ BK364.out) hb)<|an_ (below_step (pB_ HB.out) hb)<|an_ (hbox)<|an_ ((by rw [hg];exact (below_size (pB_ HB.out)):w.heap.size≤gb365))<|an_ ((by rw [hg];exact (below_size (pB_ HB.out)):w.heap.size≤gb365))<|an_ ((by rw [hg];exact Nat.ne_of_lt (blk_lt (pk_ BK364.out)):gb364≠gb365))<|Aside0.mk ((by rw [hg];exact Nat.ne_of_gt (blk_lt (pk_ BK364.out)):gb365≠gb364));clear BK364 HB;obtain ⟨BK364,HB,BK365,GW365,GE365,NB364_365,NB365_364⟩:=n_;clear hb hbox hg)|((with_reducible refine gate_dst (N:=4) rfl ?_);refine box_event ?hg (N:=4) ?hd (cs:=#[.int .i64 0,.int .i64 0,.int .i64 0]) (t:=31) ?hr ?_;(case hd=>rfl);(case hg=>rfl);(case hr=>first|(go_simp;done)|(go_simp;rfl));intro gb366 hg w29 hbox hb;have n_:=an_ (blk_below (pk_ BK364.out) hb)<|an_ (blk_below (pk_ BK365.out) hb)<|an_ (below_step (pB_ HB.out) hb)<|an_ (hbox)<|an_ ((by rw [hg];exact (below_size (pB_ HB.out)):w.heap.size≤gb366))<|an_ ((by rw [hg];exact (below_size (pB_ HB.out)):w.heap.size≤gb366))<|an_ ((by rw [hg];exact Nat.ne_of_lt (blk_lt (pk_ BK364.out)):gb364≠gb366))<|an_ ((by rw [hg];exact Nat.ne_of_gt (blk_lt (pk_ BK364.out)):gb366≠gb364))<|an_ ((by rw [hg];exact Nat.ne_of_lt (blk_lt (pk_ BK365.out)):gb365≠gb366))<|Aside0.mk ((by rw [hg];exact Nat.ne_of_gt (blk_lt (pk_ BK365.out)):gb366≠gb365));clear BK364 BK365 HB;obtain ⟨BK364,BK365,HB,BK366,GW366,GE366,NB364_366,NB366_364,NB365_366,NB366_365⟩:=n_;clear hb hbox hg;(try have hnb30:=NB364_365.out);(try have hnc30:=NB365_364.out);(try have hnb31:=NB364_366.out);(try have hnc31:=NB366_364.out);obtain ⟨hcz32_0,hcz32_1,hcz32_2,hfz32_0,hfz32_1,hfz32_2⟩:=cells3 BK364.out)|((with_reducible refine gate_callee (f:=57) rfl ?_);refine goesL_ (some 6) rfl rfl Try.func57 (by kernel_rfl) rfl #[.agg #[.int .i64 a0_0,.int .i64 a0_1,.int .i64 a0_2]] rfl Z8 ?_;(with_reducible refine (impl_TagOk.calls a0_0 a0_1 a0_2 false _ A3.out).mono ?_);rintro e w33 ⟨rfl,hb⟩;refine ⟨_,rfl,?_⟩;have n_:=an_ (blk_below (pk_ BK364.out) hb)<|an_ (blk_below (pk_ BK365.out) hb)<|an_ (blk_below (pk_ BK366.out) hb)<|Aside0.mk (below_step (pB_ HB.out) hb);clear BK364 BK365 BK366 HB;obtain ⟨BK364,BK365,BK366,HB⟩:=n_;(try clear hb);(try clear hb2);(try clear hk);(try clear hi);(try have hnb34:=NB366_365.out);(try have hnc34:=NB365_366.out);obtain ⟨hcz35_0,hcz35_1,hcz35_2,hfz35_0,hfz35_1,hfz35_2⟩:=cells3 BK366.out))
  refine bodyPost_ret (results_cell_row rfl _ _ gb366 31 #[.int .i64 0,.int .i64 0,.int .i64 0] (0,0) _ rfl Z2 Try.underlying31 rfl (by kernel_rfl)) rfl ?_;exact ⟨by first|rfl|(simp [errW_none,errW_some] <;> rfl)|(simp [*,errW_none,errW_some] <;> rfl),pB_ HB.out⟩

end Go.Proofs.Ytolphjnajopknaa.PFnExactTreeRebase
