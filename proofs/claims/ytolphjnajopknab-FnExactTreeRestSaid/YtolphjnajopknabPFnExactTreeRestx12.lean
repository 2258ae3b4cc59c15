-- by a program of this session's, over the kit's words
import Derived.Test.YtolphjnajopknabPZFnExactTreeRest
import Derived.Test.YtolphjnajopknabPFnExactTreeRestx0
import Derived.Test.YtolphjnajopknabPFnExactTreeRestx7
import Derived.Test.YtolphjnajopknabPFnExactTreeRestx9
import Derived.Test.YtolphjnajopknabPFnExactTreeRestx10
import Derived.Test.YtolphjnajopknabPFnExactTreeRestx11
namespace Go.Proofs.Ytolphjnajopknab.PFnExactTreeRest
open Go.RowKit Go.Proofs.YtolphjnajopknabW.PrintWords Go.Proofs.YtolphjnajopknabW.PrintLast Go.Proofs.YtolphjnajopknabW.PrintMore Go.Proofs.YtolphjnajopknabV Go.Proofs.Ytolphjnajopknab.ZFnExactTreeRest
open Go.Value renaming int → I, slice → Y
open Go.IntKind renaming i64 → L
open Aside0 renaming mk → D
open Option renaming bind_eq_some_iff → bs_
attribute [local go_sem] max2_int min2_int max_two min_two max_three min_three max_four min_four   -- for this text's walks alone
set_option linter.unusedVariables false
set_option linter.unusedSimpArgs false

/-! ### impl_FairRest: function 22 -/
def impl_FairRest.f (k : Nat) (a0_0 a0_1 a0_2 a0_3 : Int) (l0_4 : List (S70)) (a1 : Int) : Option (Int × Int × Int × Int × (List (S70)) × Int) := (impl_Fair_at.f k a0_0 a0_1 a0_2 a0_3 l0_4 a1).bind fun t438 => ((impl_FairOk.f k a0_0 a0_1 a0_2 a0_3 l0_4).bind fun t439 => (if t439 = true then (if t438 < 0 then (some (0, 0, 0, 0, ([] : List (S70)), 4)) else (if 0 ≤ t438 then (if t438 < (l0_4.length : Int) then (if ((rd_T70 l0_4 t438).f2 = true) then ((impl_copyFair.f a0_0 a0_1 a0_2 a0_3 l0_4).bind fun bt441 => (if t438 < (bt441.2.2.2.2.length : Int) then (some (bt441.1, bt441.2.1, bt441.2.2.1, bt441.2.2.2.1, (bt441.2.2.2.2.set (t438 : Int).toNat (⟨(rd_T70 bt441.2.2.2.2 t438).f0, (rd_T70 bt441.2.2.2.2 t438).f1, false, (⟨(rd_T70 bt441.2.2.2.2 t438).f3.f0, (rd_T70 bt441.2.2.2.2 t438).f3.f1, (rd_T70 bt441.2.2.2.2 t438).f3.f2⟩ : S31)⟩ : S70)), 0)) else (none))) else (some (0, 0, 0, 0, ([] : List (S70)), 6))) else (none)) else (none))) else (some (0, 0, 0, 0, ([] : List (S70)), 1))))
set_option maxHeartbeats 8000000 in
set_option maxRecDepth 100000 in
theorem impl_FairRest.calls (k : Nat) (a0_0 a0_1 a0_2 a0_3 : Int) (A0_4 : Option Addr) (c0_4 : Nat) (l0_4 : List (S70)) (a1 r1 r2 r3 r4 : Int) (r5 : List (S70)) (r6 : Int) (w : World) (hr0_4 : Kd.C k70 w A0_4 l0_4.length l0_4) (hc0_4 : l0_4.length ≤ c0_4) (h : impl_FairRest.f k a0_0 a0_1 a0_2 a0_3 l0_4 a1 = some (r1, r2, r3, r4, r5, r6)) :
  Calls Try.prog 22 #[.agg #[I L a0_0,I L a0_1,I L a0_2,I L a0_3,Y A0_4 l0_4.length c0_4],I L a1] w fun e w'=>∃ v4_:Value,e=.returned (.tuple #[.agg #[I L r1,I L r2,I L r3,I L r4,v4_],I L r6])∧Kd.R k70 70 w' w.heap.size (fun _=>True) v4_ r5∧Below w.heap.size w w':=by
 have hu34 := Try.underlying34
 have HR0_4 := D hr0_4
 have HC0_4 := D hc0_4
 clear hr0_4 hc0_4
 have HB := D (Below.refl w.heap.size w)
 have H:((impl_Fair_at.f k a0_0 a0_1 a0_2 a0_3 l0_4 a1).bind fun Ja=>((impl_FairOk.f k a0_0 a0_1 a0_2 a0_3 l0_4).bind fun Md=>(if Md=true then (if Ja < 0 then (some (0,0,0,0,([]:List (S70)),4)) else (if 0≤Ja then (if Ja < (l0_4.length:Int) then (if ((rd_T70 l0_4 Ja).f2=true) then ((impl_copyFair.f a0_0 a0_1 a0_2 a0_3 l0_4).bind fun bt441=>(if Ja < (bt441.2.2.2.2.length:Int) then (some (bt441.1,bt441.2.1,bt441.2.2.1,bt441.2.2.2.1,(bt441.2.2.2.2.set (Ja:Int).toNat (⟨(rd_T70 bt441.2.2.2.2 Ja).f0,(rd_T70 bt441.2.2.2.2 Ja).f1,false,(⟨(rd_T70 bt441.2.2.2.2 Ja).f3.f0,(rd_T70 bt441.2.2.2.2 Ja).f3.f1,(rd_T70 bt441.2.2.2.2 Ja).f3.f2⟩:S31)⟩:S70)),0)) else (none))) else (some (0,0,0,0,([]:List (S70)),6))) else (none)) else (none))) else (some (0,0,0,0,([]:List (S70)),1)))))=some (r1,r2,r3,r4,r5,r6):=h
 clear h
 obtain ⟨Ja, A30, H⟩ := bs_.mp H
 (try dsimp only at H)
 have A3 := D A30
 clear A30
 obtain ⟨Md, A40, H⟩ := bs_.mp H
 (try dsimp only at H)
 have A4 := D A40
 clear A40
 have HU5 := D H
 clear H
 go_enter Try.func22, Try.ntmps22
 go_upto_if 11 with (first|((with_reducible refine gate_dst (N:=2) rfl ?_);refine bx_ (N:=2) (cs:=#[I L a0_0,I L a0_1,I L a0_2,I L a0_3,Y A0_4 l0_4.length c0_4]) (t:=34) ?_;intro Kb hg w6 hbox hb;have n_:=an_ (below_step (pB_ HB.out) hb)<|an_ (hbox)<|an_ (bg_ hg (pB_ HB.out):w.heap.size≤Kb)<|D (bg_ hg (pB_ HB.out):w.heap.size≤Kb);clear HB;obtain ⟨HB,Ka,Je,Ke⟩:=n_;clear hb hbox hg)|((with_reducible refine gate_dst (N:=4) rfl ?_);refine bx_ (N:=4) (cs:=#[I L 0,I L 0,I L 0,I L 0,Y none 0 0]) (t:=34) ?_;intro Ob hg w7 hbox hb;have n_:=an_ (blk_below (pk_ Ka.out) hb)<|an_ (below_step (pB_ HB.out) hb)<|an_ (hbox)<|an_ (bg_ hg (pB_ HB.out):w.heap.size≤Ob)<|an_ (bg_ hg (pB_ HB.out):w.heap.size≤Ob)<|an_ ((by rw [hg];exact Nat.ne_of_lt (blk_lt (pk_ Ka.out)):Kb≠Ob))<|D (by rw [hg];exact Nat.ne_of_gt (blk_lt (pk_ Ka.out)):Ob≠Kb);clear Ka HB;obtain ⟨Ka,HB,Oa,Me,Oe,Mc,Oc⟩:=n_;clear hb hbox hg;(try have hnb8:=Mc.out);(try have hnc8:=Oc.out);obtain ⟨Ue,Xe,Jf,Kf,Mf,Of,Uf,Xf,Jg,Kg⟩:=cells5 Ka.out)|((with_reducible refine gate_callee (f:=39) rfl ?_);refine goesL_ (some 10) rfl rfl Try.func39 (by kernel_rfl) rfl #[.agg #[I L a0_0,I L a0_1,I L a0_2,I L a0_3,Y A0_4 l0_4.length c0_4],I L a1] rfl Z18 ?_;(with_reducible refine (impl_Fair_at.calls k a0_0 a0_1 a0_2 a0_3 _ _ l0_4 a1 Ja _ ?side1 ?side2 A3.out).mono ?_);(case side1=>exact pC_ (Kd.C_below HR0_4.out HB.out));(case side2=>exact HC0_4.out);rintro e w10 ⟨rfl,hb⟩;refine ⟨_,rfl,?_⟩;have n_:=an_ (blk_below (pk_ Ka.out) hb)<|an_ (blk_below (pk_ Oa.out) hb)<|D (below_step (pB_ HB.out) hb);clear Ka Oa HB;obtain ⟨Ka,Oa,HB⟩:=n_;(try clear hb);obtain ⟨Mg,Og,Ug,Xg,Jh,Kh,Mh,Oh,Uh,Xh⟩:=cells5 Ka.out)|((with_reducible refine gate_callee (f:=41) rfl ?_);refine goesL_ (some 13) rfl rfl Try.func41 (by kernel_rfl) rfl #[.agg #[I L a0_0,I L a0_1,I L a0_2,I L a0_3,Y A0_4 l0_4.length c0_4]] rfl Z18 ?_;(with_reducible refine (impl_FairOk.calls k a0_0 a0_1 a0_2 a0_3 _ _ l0_4 Md _ ?side1 ?side2 A4.out).mono ?_);(case side1=>exact pC_ (Kd.C_below HR0_4.out HB.out));(case side2=>exact HC0_4.out);rintro e w12 ⟨rfl,hb⟩;refine ⟨_,rfl,?_⟩;have n_:=an_ (blk_below (pk_ Ka.out) hb)<|an_ (blk_below (pk_ Oa.out) hb)<|D (below_step (pB_ HB.out) hb);clear Ka Oa HB;obtain ⟨Ka,Oa,HB⟩:=n_;(try clear hb)))
 have H := HU5.out
 clear HU5
 by_cases c13 : Md = true
 ·subst c13
  rw [if_pos rfl] at H
  by_cases c14 : Ja < 0
  ·rw [if_pos c14] at H
   have c14b0:decide (Ja < 0)=true:=decide_eq_true c14;clear c14;refine rw_ c14b0 ?_;simp only [Option.some.injEq,Prod.mk.injEq] at H;obtain ⟨rfl,rfl,rfl,rfl,rfl,rfl⟩:=H;(try have hnb15:=Oc.out);(try have hnc15:=Mc.out);obtain ⟨Ji,Ki,Mi,Oi,Ui,Xi,Jj,Kj,Mj,Oj⟩:=cells5 Oa.out
   go_wp2
   refine bodyPost_ret (results_ct rfl _ _ Ob 34 #[I L 0,I L 0,I L 0,I L 0,Y none 0 0] (0,0) _ rfl Z5 Try.underlying34 rfl (by kernel_rfl)) rfl ?_;exact ⟨_,er_,by first|exact Kd.R_nil _ _ _ _ _|exact Kd.N_nil _ _ _ _ _|exact Kd.V_nil _ _ _ _ _|exact Kd.Q_nil _ _ _ _ _|exact Kd.S_nil _ _ _ _ _,pB_ HB.out⟩
  ·rw [if_neg c14] at H
   have c14b0:decide (Ja < 0)=false:=decide_eq_false c14;clear c14;refine rw_ c14b0 ?_
   by_cases c17 : 0 ≤ Ja
   ·rw [if_pos c17] at H
    have c17b0 : decide (0 ≤ Ja) = true := decide_eq_true c17; clear c17
    by_cases c18 : Ja < (l0_4.length : Int)
    ·rw [if_pos c18] at H
     have c18b0:decide (Ja < (l0_4.length:Int))=true:=decide_eq_true c18;clear c18;have HU19:=D H;clear H;(try have hnb20:=Mc.out);(try have hnc20:=Oc.out);obtain ⟨Uj,Xj,Jk,Kk,Mk,Ok,Uk,Xk,Jm,Km⟩:=cells5 Ka.out;have p440:0≤(Ja:Int):=od_ Z47;have q440:Ja < (l0_4.length:Int):=od_ Z47;obtain ⟨ad440,e440,hx440_0,hx440_1,hx440_2,hx440_3,hx440_4,hx440_5⟩:=at_T70 HR0_4.out Ja p440 q440;cases e440;replace hx440_0:=rc_ HB.out hx440_0;replace hx440_1:=rc_ HB.out hx440_1;replace hx440_2:=rc_ HB.out hx440_2;replace hx440_3:=rc_ HB.out hx440_3;replace hx440_4:=rc_ HB.out hx440_4;replace hx440_5:=rc_ HB.out hx440_5;replace p440:=eq_true p440;replace q440:=eq_true q440
     go_upto_if 20 with (fail)
     have H := HU19.out; clear HU19; obtain ⟨bq22, hbq22⟩ : ∃ b_ : Bool, b_ = ((rd_T70 l0_4 Ja).f2) := ⟨_, rfl⟩
     replace H:(if (bq22=true) then ((impl_copyFair.f a0_0 a0_1 a0_2 a0_3 l0_4).bind fun bt441=>(if Ja < (bt441.2.2.2.2.length:Int) then (some (bt441.1,bt441.2.1,bt441.2.2.1,bt441.2.2.2.1,(bt441.2.2.2.2.set (Ja:Int).toNat (⟨(rd_T70 bt441.2.2.2.2 Ja).f0,(rd_T70 bt441.2.2.2.2 Ja).f1,false,(⟨(rd_T70 bt441.2.2.2.2 Ja).f3.f0,(rd_T70 bt441.2.2.2.2 Ja).f3.f1,(rd_T70 bt441.2.2.2.2 Ja).f3.f2⟩:S31)⟩:S70)),0)) else (none))) else (some (0,0,0,0,([]:List (S70)),6)))=some (r1,r2,r3,r4,r5,r6):=by rw [← hbq22] at H;exact H
     have Nbq22 := D hbq22; clear hbq22; (try rw [← Nbq22.out])
     by_cases c23 : (bq22 = true)
     ·subst c23
      rw [if_pos rfl] at H; obtain ⟨⟨Mb, Ub, Xb, Jc, Ma⟩, A240, H⟩ := bs_.mp H; (try dsimp only at H); have A24 := D A240; clear A240
      by_cases c25 : Ja < (Ma.length : Int)
      ·rw [if_pos c25] at H
       have c25b0:decide (Ja < (Ma.length:Int))=true:=decide_eq_true c25;clear c25;obtain ⟨y449,hy449⟩:∃ y_:List (S70),y_=(Ma.set (Ja:Int).toNat (⟨(rd_T70 Ma Ja).f0,(rd_T70 Ma Ja).f1,false,(⟨(rd_T70 Ma Ja).f3.f0,(rd_T70 Ma Ja).f3.f1,(rd_T70 Ma Ja).f3.f2⟩:S31)⟩:S70)):=⟨_,rfl⟩
       replace H:(some (Mb,Ub,Xb,Jc,y449,0))=some (r1,r2,r3,r4,r5,r6):=by first|(rw [hy449];with_reducible exact H)|(have H2_:=(Option.bind_some _ _).symm.trans H;rw [hy449];with_reducible exact H2_)|(have H2_:=(Option.bind_some _ _).symm.trans H;with_reducible exact H2_)|with_reducible exact H|(rw [hy449];exact H)|exact H
       have Ny449:=D hy449;clear hy449;simp only [Option.some.injEq,Prod.mk.injEq] at H;obtain ⟨rfl,rfl,rfl,rfl,rfl,rfl⟩:=H;(try have hnb27:=Mc.out);(try have hnc27:=Oc.out);obtain ⟨Mm,Om,Um,Xm,Jn,Kn,Mn,On,Un,Xn⟩:=cells5 Ka.out
       go_wp2_with (first|((with_reducible refine gate_callee (f:=42) rfl ?_);refine goesL_ (some 30) rfl rfl Try.func42 (by kernel_rfl) rfl #[.agg #[I L a0_0,I L a0_1,I L a0_2,I L a0_3,Y (some ad440) l0_4.length c0_4]] rfl Z18 ?_;(with_reducible refine (impl_copyFair.calls a0_0 a0_1 a0_2 a0_3 _ _ l0_4 Mb Ub Xb Jc Ma _ ?side1 ?side2 A24.out).mono ?_);(case side1=>exact pC_ (Kd.C_below HR0_4.out HB.out));(case side2=>exact HC0_4.out);rintro e w29 ⟨Jo,rfl,ho0,hb⟩;refine ⟨_,rfl,?_⟩;have n_:=an_ (Kd.R_lower ho0 (below_size (pB_ HB.out)))<|an_ (blk_below (pk_ Ka.out) hb)<|an_ (blk_below (pk_ Oa.out) hb)<|D (below_step (pB_ HB.out) hb);clear Ka Oa HB;obtain ⟨Jb,Ka,Oa,HB⟩:=n_;(try clear hb);(try clear ho0))|((with_reducible refine gate_dst (N:=7) rfl ?_);refine bx_ (N:=7) (cs:=#[I L 0,I L 0,I L 0,I L 0,Y none 0 0]) (t:=34) ?_;intro Xa hg w30 hbox hb;have n_:=an_ (Kd.R_below (pR_ Jb.out) hb)<|an_ (blk_below (pk_ Ka.out) hb)<|an_ (blk_below (pk_ Oa.out) hb)<|an_ (below_step (pB_ HB.out) hb)<|an_ (hbox)<|an_ (bg_ hg (pB_ HB.out):w.heap.size≤Xa)<|an_ (bg_ hg (pB_ HB.out):w.heap.size≤Xa)<|an_ ((by rw [hg];exact Nat.ne_of_lt (blk_lt (pk_ Ka.out)):Kb≠Xa))<|an_ ((by rw [hg];exact Nat.ne_of_gt (blk_lt (pk_ Ka.out)):Xa≠Kb))<|an_ ((by rw [hg];exact Nat.ne_of_lt (blk_lt (pk_ Oa.out)):Ob≠Xa))<|D (by rw [hg];exact Nat.ne_of_gt (blk_lt (pk_ Oa.out)):Xa≠Ob);clear Jb Ka Oa HB;obtain ⟨Jb,Ka,Oa,HB,Ua,Ko,Mo,Uc,Ud,Xc,Xd⟩:=n_;clear hb hbox hg;(try have hnb31:=Ud.out);(try have hnc31:=Uc.out);(try have hnb32:=Xd.out);(try have hnc32:=Xc.out);obtain ⟨Oo,Uo,Xo,Jp,Kp,Mp,Op,Up,Xp,Jq⟩:=cells5 Ua.out;obtain ⟨Jd,Kc,eo34⟩:=Kd.R_slice Jb.out;subst eo34)|((with_reducible refine gate_store (t:=34) (p:=7) rfl ?_);refine store_event (t:=34) (p:=7) (v:=?vo_w35) (w1:=(((((w30.setCell ⟨Xa,0,none⟩ (I L Mb)).setCell ⟨Xa,1,none⟩ (I L Ub)).setCell ⟨Xa,2,none⟩ (I L Xb)).setCell ⟨Xa,3,none⟩ (I L Jc)).setCell ⟨Xa,4,none⟩ (Y Jd Ma.length Kc))) ?hg ?ho ?hn ?hr ?_;(case ho=>rfl);(case hg=>rfl);(case hn=>rfl);(case hr=>first|(go_simp;done)|(go_simp;rfl));intro w35 hw;have n0_:Aside0 (Kd.R k70 70 w35 w.heap.size (fun _=>True) (Y Jd Ma.length Kc) Ma):=⟨(by rw [hw];exact (rM_ (Kd.R_types Jb.out Ua.out (by decide)) (fun _ hk=>trivial)))⟩;have n1_:Aside0 (w35.heap[Kb]?=some (.cells #[I L a0_0,I L a0_1,I L a0_2,I L a0_3,Y (some ad440) l0_4.length c0_4] 34 (0,0))):=⟨(by rw [hw];exact (by exact pP_ Ka.out))⟩;have n2_:Aside0 (w35.heap[Ob]?=some (.cells #[I L 0,I L 0,I L 0,I L 0,Y none 0 0] 34 (0,0))):=⟨(by rw [hw];exact Z12)⟩;have n3_:Aside0 (w35.heap[Xa]?=some (.cells #[I L Mb,I L Ub,I L Xb,I L Jc,Y Jd Ma.length Kc] 34 (0,0))):=⟨(by rw [hw];exact (by exact pP_ Ua.out))⟩;have n4_:Aside0 (Below w.heap.size w w35):=⟨Z49⟩;clear hw;clear Jb;clear Ka;clear Oa;clear Ua;clear HB;have Jb:=n0_;have Ka:=n1_;have Oa:=n2_;have Ua:=n3_;have HB:=n4_;clear n0_ n1_ n2_ n3_ n4_;obtain ⟨Kq,Mq,Oq,Uq,Xq,Jr,Kr,Mr,Or,Ur⟩:=cells5 Ua.out;have p26:0≤(Ja:Int):=od_ Z47;have q26:(Ja:Int) < ((Ma.length:Int):Int):=od_ Z47;obtain ⟨go26,Xr,eo26,Od,gl26,cl26,HG26⟩:=Kd.R_form Jb.out (by omega);(first|cases eo26|(injection eo26 with ea_ en_ ec_;(first|subst ea_|(injection ea_ with ea_;subst ea_));subst ec_;clear en_));have GB26:=D Od;have GG26:=D HG26;clear Od gl26 HG26;obtain ⟨ce26,hcl26,hM26,hcc26,hfr26⟩:=Kd.R_elem Jb.out z70 (Ja:Int) p26 q26;obtain rfl:=k70_openM hM26;have hx26_0:w35.cell? ⟨go26,(Ja:Int).toNat * 6,none⟩=some (I L ((rd_T70 Ma Ja).f0)):=hcc26 0 _ rfl;have hx26_1:w35.cell? ⟨go26,(Ja:Int).toNat * 6 + 1,none⟩=some (I L ((rd_T70 Ma Ja).f1)):=hcc26 1 _ rfl;have hx26_2:w35.cell? ⟨go26,(Ja:Int).toNat * 6 + 2,none⟩=some (.bool ((rd_T70 Ma Ja).f2)):=hcc26 2 _ rfl;have hx26_3:w35.cell? ⟨go26,(Ja:Int).toNat * 6 + 3,none⟩=some (I L ((rd_T70 Ma Ja).f3.f0)):=hcc26 3 _ rfl;have hx26_4:w35.cell? ⟨go26,(Ja:Int).toNat * 6 + 4,none⟩=some (I L ((rd_T70 Ma Ja).f3.f1)):=hcc26 4 _ rfl;have hx26_5:w35.cell? ⟨go26,(Ja:Int).toNat * 6 + 5,none⟩=some (I L ((rd_T70 Ma Ja).f3.f2)):=hcc26 5 _ rfl;have hf26_0:w35.frozen? ⟨go26,(Ja:Int).toNat * 6,none⟩=false:=hfr26 0;have hf26_1:w35.frozen? ⟨go26,(Ja:Int).toNat * 6 + 1,none⟩=false:=hfr26 1;have hf26_2:w35.frozen? ⟨go26,(Ja:Int).toNat * 6 + 2,none⟩=false:=hfr26 2;have hf26_3:w35.frozen? ⟨go26,(Ja:Int).toNat * 6 + 3,none⟩=false:=hfr26 3;have hf26_4:w35.frozen? ⟨go26,(Ja:Int).toNat * 6 + 4,none⟩=false:=hfr26 4;have hf26_5:w35.frozen? ⟨go26,(Ja:Int).toNat * 6 + 5,none⟩=false:=hfr26 5;clear hcl26 hcc26 hfr26 hM26;replace p26:=eq_true p26;replace q26:=eq_true q26;have HX37:=D (show Kd.R k70 70 w35 w.heap.size (fun _=>True) (Y (some ⟨go26,0,none⟩) Ma.length Kc) Ma from (pR_ Jb.out));obtain ⟨ce37,hcl37,hM37,hcc37,hfr37⟩:=Kd.R_elem HX37.out z70 (Ja:Int) (od_ Z47) (by have h_:(Ja:Int) < ((Ma.length:Int):Int):=od_ Z47;first|exact h_|(have e_:=(Kd.R_reads' Jb.out).1;omega)|simpa using h_);obtain rfl:=k70_openM hM37;have HP37:=Kd.R_seg HX37.out (Ja:Int) (od_ Z47) (by have h_:(Ja:Int) < ((Ma.length:Int):Int):=od_ Z47;first|exact h_|(have e_:=(Kd.R_reads' Jb.out).1;omega)|simpa using h_) (seg:=[.bool false]) (j:=2) hcl37 hcc37 (show 3≤6 from by decide) (x':=(⟨(rd_T70 Ma Ja).f0,(rd_T70 Ma Ja).f1,false,(⟨(rd_T70 Ma Ja).f3.f0,(rd_T70 Ma Ja).f3.f1,(rd_T70 Ma Ja).f3.f2⟩:S31)⟩:S70)) (k70_mkM _ _ _ (⟨(rd_T70 Ma Ja).f0,(rd_T70 Ma Ja).f1,false,(⟨(rd_T70 Ma Ja).f3.f0,(rd_T70 Ma Ja).f3.f1,(rd_T70 Ma Ja).f3.f2⟩:S31)⟩:S70) ) (fun _ hk=>hk);have hx37_2:=hcc37 2 _ rfl;(try simp only [show (k70).sz=6 from rfl,Nat.mul_one,Nat.add_zero] at hx37_2);have hf37_2:=hfr37 2;(try simp only [show (k70).sz=6 from rfl,Nat.mul_one,Nat.add_zero] at hf37_2);clear hcl37 hcc37 hfr37 hM37)|((with_reducible refine gate_store (t:=4) (p:=35) rfl ?_);refine store_event (t:=4) (p:=35) (v:=?vo_w38) (w1:=(w35.setCell ⟨go26,(Ja:Int).toNat * 6 + 2,none⟩ (.bool false))) ?hg ?ho ?hn ?hr ?_;(case ho=>rfl);(case hg=>rfl);(case hn=>rfl);(case hr=>first|(go_simp;done)|(go_simp;rfl));intro w38 hw;have hg:w35.grownBy w38 (some go26):=(by rw [hw];exact HP37.2);have hp_:Kd.R k70 70 w38 w.heap.size (fun _=>True) (Y (some ⟨go26,0,none⟩) Ma.length Kc) y449:=(by rw [hw,Ny449.out];exact HP37.1);clear HP37;have n_:=an_ (blk_grown (pk_ Ka.out) hg (Kd.R_ne Jb.out Ka.out (by decide)))<|an_ (blk_grown (pk_ Oa.out) hg (Kd.R_ne Jb.out Oa.out (by decide)))<|an_ (hp_)<|an_ (blk_grown (pk_ Ua.out) hg (Kd.R_ne Jb.out Ua.out (by decide)))<|D (by rw [hw];exact below_set (HB.out) GB26.out:Below w.heap.size w w38);clear Ka Oa Jb Ua HB;obtain ⟨Ka,Oa,Jb,Ua,HB⟩:=n_;clear hg hw hp_;obtain ⟨Js,Ks,Ms,Os,Us,Xs,Ju,Ku,Mu,Ou⟩:=cells5 Ua.out;obtain ⟨Uu,Xu,Jv,Kv,Mv,Ov,Uv,Xv,Jx,Kx⟩:=cells5 Oa.out))
       refine bodyPost_ret (results_ct rfl _ _ Ob 34 #[I L Mb,I L Ub,I L Xb,I L Jc,Y (some ⟨go26,0,none⟩) Ma.length Kc] (0,0) _ rfl (by exact pP_ Oa.out) Try.underlying34 rfl (by kernel_rfl)) rfl ?_;exact ⟨_,er_,by (with_reducible repeat (first|apply Kd.R_alloc|apply Kd.R_drewN|apply Kd.R_drew));exact Kd.R_mono (fr_ (fr_ (fr_ (fr_ (fr_ (Kd.R_types Jb.out Oa.out (by decide)) 0 (I L Mb)) 1 (I L Ub)) 2 (I L Xb)) 3 (I L Jc)) 4 (Y (some ⟨go26,0,none⟩) Ma.length Kc)) (fun _ hk=>trivial),pB_ HB.out⟩
      ·rw [if_neg c25] at H
       exact absurd H (by simp)
     ·replace c23 := Bool.eq_false_iff.mpr c23
      subst c23;rw [if_neg (show ¬ (false=true) by decide)] at H;simp only [Option.some.injEq,Prod.mk.injEq] at H;obtain ⟨rfl,rfl,rfl,rfl,rfl,rfl⟩:=H;(try have hnb41:=Oc.out);(try have hnc41:=Mc.out);obtain ⟨Mx,Ox,Ux,Xx,Jy,Ky,My,Oy,Uy,Xy⟩:=cells5 Oa.out
      go_wp2
      refine bodyPost_ret (results_ct rfl _ _ Ob 34 #[I L 0,I L 0,I L 0,I L 0,Y none 0 0] (0,0) _ rfl Z5 Try.underlying34 rfl (by kernel_rfl)) rfl ?_;exact ⟨_,er_,by first|exact Kd.R_nil _ _ _ _ _|exact Kd.N_nil _ _ _ _ _|exact Kd.V_nil _ _ _ _ _|exact Kd.Q_nil _ _ _ _ _|exact Kd.S_nil _ _ _ _ _,pB_ HB.out⟩
    ·rw [if_neg c18] at H
     exact absurd H (by simp)
   ·rw [if_neg c17] at H
    exact absurd H (by simp)
 ·replace c13 := Bool.eq_false_iff.mpr c13
  subst c13;rw [if_neg (show ¬ (false=true) by decide)] at H;simp only [Option.some.injEq,Prod.mk.injEq] at H;obtain ⟨rfl,rfl,rfl,rfl,rfl,rfl⟩:=H;(try have hnb43:=Oc.out);(try have hnc43:=Mc.out);obtain ⟨Jz,Kz,Mz,Oz,Uz,Xz,Ja1,Ka1,Ma1,Oa1⟩:=cells5 Oa.out
  go_wp2
  refine bodyPost_ret (results_ct rfl _ _ Ob 34 #[I L 0,I L 0,I L 0,I L 0,Y none 0 0] (0,0) _ rfl Z5 Try.underlying34 rfl (by kernel_rfl)) rfl ?_;exact ⟨_,er_,by first|exact Kd.R_nil _ _ _ _ _|exact Kd.N_nil _ _ _ _ _|exact Kd.V_nil _ _ _ _ _|exact Kd.Q_nil _ _ _ _ _|exact Kd.S_nil _ _ _ _ _,pB_ HB.out⟩

/-! ### impl_TreeRest_1: function 21 -/
def impl_TreeRest_1.f (k : Nat) (a0_0 a0_1 a0_2 a0_3 : Int) (l0_4 : List (S70)) (a1_0 : Int) : Option (Int × Int × Int × Int × (List (S70)) × Int) := (impl_FairRest.f k a0_0 a0_1 a0_2 a0_3 l0_4 a1_0).bind fun bt452 => (some (bt452.1, bt452.2.1, bt452.2.2.1, bt452.2.2.2.1, bt452.2.2.2.2.1, bt452.2.2.2.2.2))
set_option maxHeartbeats 8000000 in
set_option maxRecDepth 100000 in
theorem impl_TreeRest_1.calls (k : Nat) (a0_0 a0_1 a0_2 a0_3 : Int) (A0_4 : Option Addr) (c0_4 : Nat) (l0_4 : List (S70)) (gc1 : Nat) (a1_0 r1 r2 r3 r4 : Int) (r5 : List (S70)) (r6 : Int) (w : World) (hr0_4 : Kd.C k70 w A0_4 l0_4.length l0_4) (hc0_4 : l0_4.length ≤ c0_4) (hbx1 : w.heap[gc1]? = some (.cells #[I L a1_0] 3 (0, 0))) (h : impl_TreeRest_1.f k a0_0 a0_1 a0_2 a0_3 l0_4 a1_0 = some (r1, r2, r3, r4, r5, r6)) :
  Calls Try.prog 21 #[.agg #[I L a0_0,I L a0_1,I L a0_2,I L a0_3,Y A0_4 l0_4.length c0_4],.pointer (some ⟨gc1,0,none⟩)] w fun e w'=>∃ v4_:Value,e=.returned (.tuple #[.agg #[I L r1,I L r2,I L r3,I L r4,v4_],I L r6])∧Kd.R k70 70 w' w.heap.size (fun _=>True) v4_ r5∧Below w.heap.size w w':=by
 have hu34 := Try.underlying34
 have HR0_4 := D hr0_4
 have HC0_4 := D hc0_4
 clear hr0_4 hc0_4
 have BK1 := D hbx1
 clear hbx1
 have HB := D (Below.refl w.heap.size w)
 have H:((impl_FairRest.f k a0_0 a0_1 a0_2 a0_3 l0_4 a1_0).bind fun bt452=>(some (bt452.1,bt452.2.1,bt452.2.2.1,bt452.2.2.2.1,bt452.2.2.2.2.1,bt452.2.2.2.2.2)))=some (r1,r2,r3,r4,r5,r6):=h
 clear h
 obtain ⟨⟨t452, t453, t454, t455, t456, t459⟩, A30, H⟩ := bs_.mp H
 (try dsimp only at H)
 have A3 := D A30
 clear A30
 simp only [Option.some.injEq, Prod.mk.injEq] at H
 obtain ⟨rfl, rfl, rfl, rfl, rfl, rfl⟩ := H
 go_enter Try.func21, Try.ntmps21
 go_wp2_with (first|((with_reducible refine gate_dst (N:=2) rfl ?_);refine bx_ (N:=2) (cs:=#[I L a0_0,I L a0_1,I L a0_2,I L a0_3,Y A0_4 l0_4.length c0_4]) (t:=34) ?_;intro gb450 hg w4 hbox hb;have n_:=an_ (blk_below (pk_ BK1.out) hb)<|an_ (below_step (pB_ HB.out) hb)<|an_ (hbox)<|an_ (bg_ hg (pB_ HB.out):w.heap.size≤gb450)<|an_ (bg_ hg (pB_ HB.out):w.heap.size≤gb450)<|an_ ((by rw [hg];exact Nat.ne_of_lt (blk_lt (pk_ BK1.out)):gc1≠gb450))<|D (by rw [hg];exact Nat.ne_of_gt (blk_lt (pk_ BK1.out)):gb450≠gc1);clear BK1 HB;obtain ⟨BK1,HB,BK450,GW450,GE450,NB1_450,NB450_1⟩:=n_;clear hb hbox hg)|((with_reducible refine gate_dst (N:=3) rfl ?_);refine bx_ (N:=3) (cs:=#[I L 0,I L 0,I L 0,I L 0,Y none 0 0]) (t:=34) ?_;intro gb451 hg w5 hbox hb;have n_:=an_ (blk_below (pk_ BK1.out) hb)<|an_ (blk_below (pk_ BK450.out) hb)<|an_ (below_step (pB_ HB.out) hb)<|an_ (hbox)<|an_ (bg_ hg (pB_ HB.out):w.heap.size≤gb451)<|an_ (bg_ hg (pB_ HB.out):w.heap.size≤gb451)<|an_ ((by rw [hg];exact Nat.ne_of_lt (blk_lt (pk_ BK1.out)):gc1≠gb451))<|an_ ((by rw [hg];exact Nat.ne_of_gt (blk_lt (pk_ BK1.out)):gb451≠gc1))<|an_ ((by rw [hg];exact Nat.ne_of_lt (blk_lt (pk_ BK450.out)):gb450≠gb451))<|D (by rw [hg];exact Nat.ne_of_gt (blk_lt (pk_ BK450.out)):gb451≠gb450);clear BK1 BK450 HB;obtain ⟨BK1,BK450,HB,BK451,GW451,GE451,NB1_451,NB451_1,NB450_451,NB451_450⟩:=n_;clear hb hbox hg;(try have hnb6:=NB450_1.out);(try have hnc6:=NB1_450.out);(try have hnb7:=NB450_451.out);(try have hnc7:=NB451_450.out);obtain ⟨hcz8_0,hcz8_1,hcz8_2,hcz8_3,hcz8_4,hfz8_0,hfz8_1,hfz8_2,hfz8_3,hfz8_4⟩:=cells5 BK450.out;(try have hnb9:=NB1_451.out);(try have hnc9:=NB451_1.out);obtain ⟨hcz10_0,hfz10_0⟩:=cells1 BK1.out)|((with_reducible refine gate_callee (f:=22) rfl ?_);refine goesL_ (some 7) rfl rfl Try.func22 (by kernel_rfl) rfl #[.agg #[I L a0_0,I L a0_1,I L a0_2,I L a0_3,Y A0_4 l0_4.length c0_4],I L a1_0] rfl Z18 ?_;(with_reducible refine (impl_FairRest.calls k a0_0 a0_1 a0_2 a0_3 _ _ l0_4 a1_0 t452 t453 t454 t455 t456 t459 _ ?side1 ?side2 A3.out).mono ?_);(case side1=>exact pC_ (Kd.C_below HR0_4.out HB.out));(case side2=>exact HC0_4.out);rintro e w11 ⟨v457,rfl,ho0,hb⟩;refine ⟨_,rfl,?_⟩;have n_:=an_ (Kd.R_lower ho0 (below_size (pB_ HB.out)))<|an_ (blk_below (pk_ BK1.out) hb)<|an_ (blk_below (pk_ BK450.out) hb)<|an_ (blk_below (pk_ BK451.out) hb)<|D (below_step (pB_ HB.out) hb);clear BK1 BK450 BK451 HB;obtain ⟨HO458,BK1,BK450,BK451,HB⟩:=n_;(try clear hb);(try clear ho0);obtain ⟨hcz12_0,hcz12_1,hcz12_2,hcz12_3,hcz12_4,hfz12_0,hfz12_1,hfz12_2,hfz12_3,hfz12_4⟩:=cells5 BK451.out;obtain ⟨Ao13,co13,eo13⟩:=Kd.R_slice HO458.out;subst eo13))
 refine bodyPost_ret (results_ct rfl _ _ gb451 34 #[I L t452,I L t453,I L t454,I L t455,Y Ao13 t456.length co13] (0,0) _ rfl (by exact pP_ BK451.out) Try.underlying34 rfl (by kernel_rfl)) rfl ?_
 exact ⟨_,er_,by (with_reducible repeat (first|apply Kd.R_alloc|apply Kd.R_drewN|apply Kd.R_drew));exact Kd.R_mono (fr_ (fr_ (fr_ (fr_ (fr_ (Kd.R_types HO458.out BK451.out (by decide)) 0 (I L t452)) 1 (I L t453)) 2 (I L t454)) 3 (I L t455)) 4 (Y Ao13 t456.length co13)) (fun _ hk=>trivial),pB_ HB.out⟩

/-! ### impl_TreeRest: function 7 -/
def impl_TreeRest.f (k : Nat) (a0_0 a0_1 a0_2 a0_3 : Int) (l0_4 : List (S70)) (l0_5 : List (S50)) (a1 a2 : Int) : Option (Int × Int × Int × Int × (List (S70)) × (List (S50)) × Int) := (impl_Tree_change.f k a0_0 a0_1 a0_2 a0_3 l0_4 l0_5 a1 (fun z0_ z1_ z2_ z3_ z4_ => impl_TreeRest_1.f k z0_ z1_ z2_ z3_ z4_ a2)).bind fun bt463 => (if bt463.2.2.2.2.2.2.2 = 0 then (if 0 ≤ bt463.2.2.2.2.2.2.1 then (if bt463.2.2.2.2.2.2.1 < (bt463.2.2.2.2.2.1.length : Int) then ((impl_Fair_isBusy.f k ((rd_T50 bt463.2.2.2.2.2.1 bt463.2.2.2.2.2.2.1).f1.f0) ((rd_T50 bt463.2.2.2.2.2.1 bt463.2.2.2.2.2.2.1).f1.f1.f0) ((rd_T50 bt463.2.2.2.2.2.1 bt463.2.2.2.2.2.2.1).f1.f1.f1) ((rd_T50 bt463.2.2.2.2.2.1 bt463.2.2.2.2.2.2.1).f1.f1.f2) ((rd_T50 bt463.2.2.2.2.2.1 bt463.2.2.2.2.2.2.1).f1.f2)).bind fun t477 => (if t477 = true then (some (bt463.1, bt463.2.1, bt463.2.2.1, bt463.2.2.2.1, bt463.2.2.2.2.1, bt463.2.2.2.2.2.1, bt463.2.2.2.2.2.2.2)) else ((impl_FairRest.f k bt463.1 bt463.2.1 bt463.2.2.1 bt463.2.2.2.1 bt463.2.2.2.2.1 a1).bind fun bt478 => (some (bt478.1, bt478.2.1, bt478.2.2.1, bt478.2.2.2.1, bt478.2.2.2.2.1, bt463.2.2.2.2.2.1, bt463.2.2.2.2.2.2.2))))) else (none)) else (none)) else (some (bt463.1, bt463.2.1, bt463.2.2.1, bt463.2.2.2.1, bt463.2.2.2.2.1, bt463.2.2.2.2.2.1, bt463.2.2.2.2.2.2.2)))
set_option maxHeartbeats 8000000 in
set_option maxRecDepth 100000 in
theorem impl_TreeRest.calls (k : Nat) (a0_0 a0_1 a0_2 a0_3 : Int) (A0_4 : Option Addr) (c0_4 : Nat) (l0_4 : List (S70)) (A0_5 : Option Addr) (c0_5 : Nat) (l0_5 : List (S50)) (a1 a2 r1 r2 r3 r4 : Int) (r5 : List (S70)) (r6 : List (S50)) (r7 : Int) (w : World) (hr0_4 : Kd.C k70 w A0_4 l0_4.length l0_4) (hc0_4 : l0_4.length ≤ c0_4) (hr0_5 : Kd.C k50 w A0_5 l0_5.length l0_5) (hc0_5 : l0_5.length ≤ c0_5) (h : impl_TreeRest.f k a0_0 a0_1 a0_2 a0_3 l0_4 l0_5 a1 a2 = some (r1, r2, r3, r4, r5, r6, r7)) :
  Calls Try.prog 7 #[.agg #[I L a0_0,I L a0_1,I L a0_2,I L a0_3,Y A0_4 l0_4.length c0_4,Y A0_5 l0_5.length c0_5],I L a1,I L a2] w fun e w'=>∃ v4_ v5_:Value,e=.returned (.tuple #[.agg #[I L r1,I L r2,I L r3,I L r4,v4_,v5_],I L r7])∧Kd.R k70 70 w' w.heap.size (fun _=>True) v4_ r5∧Kd.S k50 50 w' w.heap.size (fun k_=>some k_≠(v4_:Value).ownBlock) v5_ r6∧Below w.heap.size w w':=by
 have hu37 := Try.underlying37
 have hu34 := Try.underlying34
 have hmf : ∀ (fn : Fn) (first cap : Array Value) (w : World), (Instr.makeFunc fn first cap).run Try.prog w = .ok (.func fn first cap) w := fun _ _ _ _ => rfl
 have HR0_4 := D hr0_4
 have HC0_4 := D hc0_4
 clear hr0_4 hc0_4
 have HR0_5 := D hr0_5
 have HC0_5 := D hc0_5
 clear hr0_5 hc0_5
 have HB := D (Below.refl w.heap.size w)
 have H:((impl_Tree_change.f k a0_0 a0_1 a0_2 a0_3 l0_4 l0_5 a1 (fun z0_ z1_ z2_ z3_ z4_=>impl_TreeRest_1.f k z0_ z1_ z2_ z3_ z4_ a2)).bind fun bt463=>(if bt463.2.2.2.2.2.2.2=0 then (if 0≤bt463.2.2.2.2.2.2.1 then (if bt463.2.2.2.2.2.2.1 < (bt463.2.2.2.2.2.1.length:Int) then ((impl_Fair_isBusy.f k ((rd_T50 bt463.2.2.2.2.2.1 bt463.2.2.2.2.2.2.1).f1.f0) ((rd_T50 bt463.2.2.2.2.2.1 bt463.2.2.2.2.2.2.1).f1.f1.f0) ((rd_T50 bt463.2.2.2.2.2.1 bt463.2.2.2.2.2.2.1).f1.f1.f1) ((rd_T50 bt463.2.2.2.2.2.1 bt463.2.2.2.2.2.2.1).f1.f1.f2) ((rd_T50 bt463.2.2.2.2.2.1 bt463.2.2.2.2.2.2.1).f1.f2)).bind fun Kh=>(if Kh=true then (some (bt463.1,bt463.2.1,bt463.2.2.1,bt463.2.2.2.1,bt463.2.2.2.2.1,bt463.2.2.2.2.2.1,bt463.2.2.2.2.2.2.2)) else ((impl_FairRest.f k bt463.1 bt463.2.1 bt463.2.2.1 bt463.2.2.2.1 bt463.2.2.2.2.1 a1).bind fun bt478=>(some (bt478.1,bt478.2.1,bt478.2.2.1,bt478.2.2.2.1,bt478.2.2.2.2.1,bt463.2.2.2.2.2.1,bt463.2.2.2.2.2.2.2))))) else (none)) else (none)) else (some (bt463.1,bt463.2.1,bt463.2.2.1,bt463.2.2.2.1,bt463.2.2.2.2.1,bt463.2.2.2.2.2.1,bt463.2.2.2.2.2.2.2))))=some (r1,r2,r3,r4,r5,r6,r7):=h
 clear h
 obtain ⟨⟨Jb, Kb, Ub, Jc, Kc, Mb, Xc, Ue⟩, A40, H⟩ := bs_.mp H
 (try dsimp only at H)
 have A4 := D A40
 clear A40
 by_cases c5 : Ue = 0
 ·rw [if_pos c5] at H
  have c5b0 : (Ue == 0) = true := beq_iff_eq.mpr c5; have c5b1 : (Ue != 0) = false := bne_eq_false_iff_eq.mpr c5; clear c5
  by_cases c6 : 0 ≤ Xc
  ·rw [if_pos c6] at H
   have c6b0 : decide (0 ≤ Xc) = true := decide_eq_true c6; clear c6
   by_cases c7 : Xc < (Mb.length : Int)
   ·rw [if_pos c7] at H
    have c7b0:decide (Xc < (Mb.length:Int))=true:=decide_eq_true c7;clear c7;obtain ⟨Kh,A80,H⟩:=bs_.mp H;(try dsimp only at H);have A8:=D A80;clear A80;have HU9:=D H;clear H;go_enter Try.func7,Try.ntmps7
    go_upto_if 30 with (first|((with_reducible refine gate_dst (N:=3) rfl ?_);refine bx_ (N:=3) (cs:=#[I L a0_0,I L a0_1,I L a0_2,I L a0_3,Y A0_4 l0_4.length c0_4,Y A0_5 l0_5.length c0_5]) (t:=37) ?_;intro Ob hg w10 hbox hb;have n_:=an_ (below_step (pB_ HB.out) hb)<|an_ (hbox)<|an_ (bg_ hg (pB_ HB.out):w.heap.size≤Ob)<|D (bg_ hg (pB_ HB.out):w.heap.size≤Ob);clear HB;obtain ⟨HB,Ka,Ki,Mi⟩:=n_;clear hb hbox hg)|((with_reducible refine gate_dst (N:=5) rfl ?_);refine bx_ (N:=5) (cs:=#[I L a2]) (t:=3) ?_;intro Xb hg w11 hbox hb;have n_:=an_ (blk_below (pk_ Ka.out) hb)<|an_ (below_step (pB_ HB.out) hb)<|an_ (hbox)<|an_ (bg_ hg (pB_ HB.out):w.heap.size≤Xb)<|an_ (bg_ hg (pB_ HB.out):w.heap.size≤Xb)<|an_ ((by rw [hg];exact Nat.ne_of_lt (blk_lt (pk_ Ka.out)):Ob≠Xb))<|D (by rw [hg];exact Nat.ne_of_gt (blk_lt (pk_ Ka.out)):Xb≠Ob);clear Ka HB;obtain ⟨Ka,HB,Xa,Oi,Ui,Uh,Xh⟩:=n_;clear hb hbox hg)|((with_reducible refine gate_dst (N:=6) rfl ?_);refine bx_ (N:=6) (cs:=#[I L 0,I L 0,I L 0,I L 0,Y none 0 0,Y none 0 0]) (t:=37) ?_;intro Ua hg w12 hbox hb;have n_:=an_ (blk_below (pk_ Ka.out) hb)<|an_ (blk_below (pk_ Xa.out) hb)<|an_ (below_step (pB_ HB.out) hb)<|an_ (hbox)<|an_ (bg_ hg (pB_ HB.out):w.heap.size≤Ua)<|an_ (bg_ hg (pB_ HB.out):w.heap.size≤Ua)<|an_ ((by rw [hg];exact Nat.ne_of_lt (blk_lt (pk_ Ka.out)):Ob≠Ua))<|an_ ((by rw [hg];exact Nat.ne_of_gt (blk_lt (pk_ Ka.out)):Ua≠Ob))<|an_ ((by rw [hg];exact Nat.ne_of_lt (blk_lt (pk_ Xa.out)):Xb≠Ua))<|D (by rw [hg];exact Nat.ne_of_gt (blk_lt (pk_ Xa.out)):Ua≠Xb);clear Ka Xa HB;obtain ⟨Ka,Xa,HB,Oa,Xi,Jj,Jg,Kg,Mh,Oh⟩:=n_;clear hb hbox hg;(try have hnb13:=Uh.out);(try have hnc13:=Xh.out);(try have hnb14:=Jg.out);(try have hnc14:=Kg.out);obtain ⟨Jk,Kk,Mk,Ok,Uk,Xk,Jm,Km,Mm,Om,Um,Xm⟩:=cells6 Ka.out)|((with_reducible refine gate_callee (f:=20) rfl ?_);refine goesL_ (some 15) rfl rfl Try.func20 (by kernel_rfl) rfl #[.agg #[I L a0_0,I L a0_1,I L a0_2,I L a0_3,Y A0_4 l0_4.length c0_4,Y A0_5 l0_5.length c0_5],I L a1,.func (.func 21) #[] #[.pointer (some ⟨Xb,0,none⟩)]] rfl Z18 ?_;(with_reducible refine (impl_Tree_change.calls k a0_0 a0_1 a0_2 a0_3 _ _ l0_4 _ _ l0_5 a1 (fun z0_ z1_ z2_ z3_ z4_=>impl_TreeRest_1.f k z0_ z1_ z2_ z3_ z4_ a2) 21 #[.pointer (some ⟨Xb,0,none⟩)] Jb Kb Ub Jc Kc Mb Xc Ue _ ?side1 ?side2 ?side3 ?side4 ?side5 ?side6 A4.out).mono ?_);(case side1=>exact pC_ (Kd.C_below HR0_4.out HB.out));(case side2=>exact HC0_4.out);(case side3=>exact pC_ (Kd.C_below HR0_5.out HB.out));(case side4=>exact HC0_5.out);(case side5=>exact ⟨⟨_,Try.func21,by kernel_rfl,rfl⟩⟩);(case side6=>refine ⟨?_⟩;intro a900_0 a900_1 a900_2 a900_3 A900_4 c900_4 l900_4 rr0_ rr1_ rr2_ rr3_ rr4_ rr5_ W_ hW_ hr900_4 hc900_4 h_;refine calls_of_args (args':=#[.agg #[I L a900_0,I L a900_1,I L a900_2,I L a900_3,Y A900_4 l900_4.length c900_4],.pointer (some ⟨Xb,0,none⟩)]) (by simp) ?_;refine (impl_TreeRest_1.calls k a900_0 a900_1 a900_2 a900_3 A900_4 c900_4 l900_4 Xb a2 rr0_ rr1_ rr2_ rr3_ rr4_ rr5_ W_ hr900_4 hc900_4 (blk_below (pk_ Xa.out) hW_) h_).mono ?_;rintro e w' ⟨vv4_,rfl,ho4_,hd_⟩;exact ⟨vv4_,rfl,ho4_,hd_⟩);rintro e w16 ⟨Kj,Mj,rfl,ho0,ho1,hb⟩;refine ⟨_,rfl,?_⟩;have n_:=an_ (Kd.R_lower ho0 (below_size (pB_ HB.out)))<|an_ (Kd.S_lower ho1 (below_size (pB_ HB.out)))<|an_ (blk_below (pk_ Ka.out) hb)<|an_ (blk_below (pk_ Xa.out) hb)<|an_ (blk_below (pk_ Oa.out) hb)<|D (below_step (pB_ HB.out) hb);clear Ka Xa Oa HB;obtain ⟨Oc,Mc,Ka,Xa,Oa,HB⟩:=n_;(try clear hb);(try clear ho0);(try clear ho1))|((with_reducible refine gate_dst (N:=8) rfl ?_);refine bx_ (N:=8) (cs:=#[I L 0,I L 0,I L 0,I L 0,Y none 0 0,Y none 0 0]) (t:=37) ?_;intro Ja hg w17 hbox hb;have n_:=an_ (Kd.R_below (pR_ Oc.out) hb)<|an_ (Kd.S_below (pS_ Mc.out) hb)<|an_ (blk_below (pk_ Ka.out) hb)<|an_ (blk_below (pk_ Xa.out) hb)<|an_ (blk_below (pk_ Oa.out) hb)<|an_ (below_step (pB_ HB.out) hb)<|an_ (hbox)<|an_ (bg_ hg (pB_ HB.out):w.heap.size≤Ja)<|an_ (bg_ hg (pB_ HB.out):w.heap.size≤Ja)<|an_ ((by rw [hg];exact Nat.ne_of_lt (blk_lt (pk_ Ka.out)):Ob≠Ja))<|an_ ((by rw [hg];exact Nat.ne_of_gt (blk_lt (pk_ Ka.out)):Ja≠Ob))<|an_ ((by rw [hg];exact Nat.ne_of_lt (blk_lt (pk_ Xa.out)):Xb≠Ja))<|an_ ((by rw [hg];exact Nat.ne_of_gt (blk_lt (pk_ Xa.out)):Ja≠Xb))<|an_ ((by rw [hg];exact Nat.ne_of_lt (blk_lt (pk_ Oa.out)):Ua≠Ja))<|D (by rw [hg];exact Nat.ne_of_gt (blk_lt (pk_ Oa.out)):Ja≠Ua);clear Oc Mc Ka Xa Oa HB;obtain ⟨Oc,Mc,Ka,Xa,Oa,HB,Ma,Oj,Uj,Ud,Mg,Xd,Og,Uc,Ug⟩:=n_;clear hb hbox hg;(try have hnb18:=Mg.out);(try have hnc18:=Ud.out);(try have hnb19:=Og.out);(try have hnc19:=Xd.out);(try have hnb20:=Ug.out);(try have hnc20:=Uc.out);obtain ⟨Jn,Kn,Mn,On,Un,Xn,Jo,Ko,Mo,Oo,Uo,Xo⟩:=cells6 Ma.out;obtain ⟨Jd,Md,eo22⟩:=Kd.R_slice Oc.out;subst eo22;obtain ⟨Kf,Od,eo23⟩:=Kd.S_slice Mc.out;subst eo23)|((with_reducible refine gate_store (t:=37) (p:=8) rfl ?_);refine store_event (t:=37) (p:=8) (v:=?vo_w24) (w1:=((((((w17.setCell ⟨Ja,0,none⟩ (I L Jb)).setCell ⟨Ja,1,none⟩ (I L Kb)).setCell ⟨Ja,2,none⟩ (I L Ub)).setCell ⟨Ja,3,none⟩ (I L Jc)).setCell ⟨Ja,4,none⟩ (Y Jd Kc.length Md)).setCell ⟨Ja,5,none⟩ (Y Kf Mb.length Od))) ?hg ?ho ?hn ?hr ?_;(case ho=>rfl);(case hg=>rfl);(case hn=>rfl);(case hr=>first|(go_simp;done)|(go_simp;rfl));intro w24 hw;have n0_:Aside0 (Kd.R k70 70 w24 w.heap.size (fun _=>True) (Y Jd Kc.length Md) Kc):=⟨(by rw [hw];exact (rM_ (Kd.R_types Oc.out Ma.out (by decide)) (fun _ hk=>trivial)))⟩;have n1_:Aside0 (Kd.S k50 50 w24 w.heap.size (fun k_=>some k_≠(Y Jd Kc.length Md:Value).ownBlock) (Y Kf Mb.length Od) Mb):=⟨(by rw [hw];exact (sM_ (Kd.S_types Mc.out Ma.out (by decide)) (fun _ hk=>hk.1)))⟩;have n2_:Aside0 (w24.heap[Ob]?=some (.cells #[I L a0_0,I L a0_1,I L a0_2,I L a0_3,Y A0_4 l0_4.length c0_4,Y A0_5 l0_5.length c0_5] 37 (0,0))):=⟨(by rw [hw];exact (by exact pP_ Ka.out))⟩;have n3_:Aside0 (w24.heap[Xb]?=some (.cells #[I L a2] 3 (0,0))):=⟨(by rw [hw];exact (by exact pP_ Xa.out))⟩;have n4_:Aside0 (w24.heap[Ua]?=some (.cells #[I L 0,I L 0,I L 0,I L 0,Y none 0 0,Y none 0 0] 37 (0,0))):=⟨(by rw [hw];exact (by exact pP_ Oa.out))⟩;have n5_:Aside0 (w24.heap[Ja]?=some (.cells #[I L Jb,I L Kb,I L Ub,I L Jc,Y Jd Kc.length Md,Y Kf Mb.length Od] 37 (0,0))):=⟨(by rw [hw];exact (by exact pP_ Ma.out))⟩;have n6_:Aside0 (Below w.heap.size w w24):=⟨Z49⟩;clear hw;clear Oc;clear Mc;clear Ka;clear Xa;clear Oa;clear Ma;clear HB;have Oc:=n0_;have Mc:=n1_;have Ka:=n2_;have Xa:=n3_;have Oa:=n4_;have Ma:=n5_;have HB:=n6_;clear n0_ n1_ n2_ n3_ n4_ n5_ n6_;obtain ⟨Jp,Kp,Mp,Op,Up,Xp,Jq,Kq,Mq,Oq,Uq,Xq⟩:=cells6 Ma.out;have p476:0≤(Xc:Int):=od_ Z47;have q476:Xc < (Mb.length:Int):=od_ Z47;obtain ⟨ad476,A476_5,c476_5,e476,hx476_0,hx476_1,hx476_2,hx476_3,hx476_4,hx476_5,hl476_5,hi476_5⟩:=at_T50 (Kd.S_reads' Mc.out).2.2 Xc p476 q476;cases e476;obtain ⟨ce476,hce476,hMe476,hcc476⟩:=Kd.S_get Mc.out z50 Xc p476 (by first|exact q476|exact od_ Z47|(have e_:=(Kd.S_reads' Mc.out).1;omega));obtain ⟨ve476_5,rfl,ge476_5⟩:=k50_openM hMe476;have hv476_5:=hcc476 5 _ rfl;rw [add_field _ _ 5 (by omega)] at hv476_5;replace hv476_5:=Option.some.inj (hv476_5.symm.trans hx476_5);rw [hv476_5] at ge476_5;have Xe:=D (show Kd.R k70 70 _ _ _ _ ((rd_T50 Mb Xc).f1.f2) from ge476_5);clear hv476_5 ge476_5;clear hcc476 hce476;have HR476_5:=D hi476_5;have HC476_5:=D hl476_5;clear hi476_5 hl476_5;replace p476:=eq_true p476;replace q476:=eq_true q476)|(go_at_call 23;(with_reducible refine (impl_Fair_isBusy.calls k ((rd_T50 Mb Xc).f1.f0) ((rd_T50 Mb Xc).f1.f1.f0) ((rd_T50 Mb Xc).f1.f1.f1) ((rd_T50 Mb Xc).f1.f1.f2) _ _ ((rd_T50 Mb Xc).f1.f2) Kh _ ?side1 ?side2 A8.out).mono ?_);(case side1=>repeat (first|exact Z16|(with_reducible refine Kd.C_alloc ?_ _)|(with_reducible refine Kd.C_drewN ?_ _)|(with_reducible refine Kd.C_drew ?_)));(case side2=>exact HC476_5.out);rintro e w26 ⟨rfl,hb⟩;have n_:=an_ (Kd.R_below (pR_ Oc.out) hb)<|an_ (Kd.S_below (pS_ Mc.out) hb)<|an_ (Kd.R_below (pR_ Xe.out) hb)<|an_ (blk_below (pk_ Ka.out) hb)<|an_ (blk_below (pk_ Xa.out) hb)<|an_ (blk_below (pk_ Oa.out) hb)<|an_ (blk_below (pk_ Ma.out) hb)<|an_ (Kd.C_below Z16 hb)<|D (below_step (pB_ HB.out) hb);clear Oc Mc Xe Ka Xa Oa Ma HR476_5 HB;obtain ⟨Oc,Mc,Xe,Ka,Xa,Oa,Ma,HR476_5,HB⟩:=n_;(try clear hb);(try clear hk)))
    have H := HU9.out; clear HU9
    by_cases c27 : Kh = true
    ·subst c27
     rw [if_pos rfl] at H;simp only [Option.some.injEq,Prod.mk.injEq] at H;obtain ⟨rfl,rfl,rfl,rfl,rfl,rfl,rfl⟩:=H;(try have hnb28:=Mg.out);(try have hnc28:=Ud.out);(try have hnb29:=Og.out);(try have hnc29:=Xd.out);(try have hnb30:=Ug.out);(try have hnc30:=Uc.out);obtain ⟨Jr,Kr,Mr,Or,Ur,Xr,Js,Ks,Ms,Os,Us,Xs⟩:=cells6 Ma.out;(try have hnb32:=Kg.out);(try have hnc32:=Jg.out);(try have hnb33:=Oh.out);(try have hnc33:=Mh.out);obtain ⟨Ju,Ku,Mu,Ou,Uu,Xu,Jv,Kv,Mv,Ov,Uv,Xv⟩:=cells6 Oa.out
     go_wp2
     refine bodyPost_ret (results_ct rfl _ _ Ua 37 #[I L Jb,I L Kb,I L Ub,I L Jc,Y Jd Kc.length Md,Y (some ad476) Mb.length Od] (0,0) _ rfl (by exact pP_ Oa.out) Try.underlying37 rfl (by kernel_rfl)) rfl ?_;exact ⟨_,_,er_,by (with_reducible repeat (first|apply Kd.R_alloc|apply Kd.R_drewN|apply Kd.R_drew));exact Kd.R_mono (fr_ (fr_ (fr_ (fr_ (fr_ (fr_ (Kd.R_types Oc.out Oa.out (by decide)) 0 (I L Jb)) 1 (I L Kb)) 2 (I L Ub)) 3 (I L Jc)) 4 (Y Jd Kc.length Md)) 5 (Y (some ad476) Mb.length Od)) (fun _ hk=>trivial),by (with_reducible repeat (first|apply Kd.S_alloc|apply Kd.S_drewN|apply Kd.S_drew));exact Kd.S_mono (Kd.S_far (p:=⟨Ua,5,none⟩) (Kd.S_far (p:=⟨Ua,4,none⟩) (Kd.S_far (p:=⟨Ua,3,none⟩) (Kd.S_far (p:=⟨Ua,2,none⟩) (Kd.S_far (p:=⟨Ua,1,none⟩) (Kd.S_far (p:=⟨Ua,0,none⟩) (Kd.S_types Mc.out Oa.out (by decide)) (fun _ hk=>hk.2) (I L Jb)) (fun _ hk=>hk.2) (I L Kb)) (fun _ hk=>hk.2) (I L Ub)) (fun _ hk=>hk.2) (I L Jc)) (fun _ hk=>hk.2) (Y Jd Kc.length Md)) (fun _ hk=>hk.2) (Y (some ad476) Mb.length Od)) (fun _ hk=>hk.1),pB_ HB.out⟩
    ·replace c27 := Bool.eq_false_iff.mpr c27
     subst c27;rw [if_neg (show ¬ (false=true) by decide)] at H;obtain ⟨⟨Je,Ke,Me,Oe,Jf,Xj⟩,A350,H⟩:=bs_.mp H;(try dsimp only at H);have A35:=D A350;clear A350;simp only [Option.some.injEq,Prod.mk.injEq] at H;obtain ⟨rfl,rfl,rfl,rfl,rfl,rfl,rfl⟩:=H;(try have hnb36:=Mg.out);(try have hnc36:=Ud.out);(try have hnb37:=Og.out);(try have hnc37:=Xd.out);(try have hnb38:=Ug.out);(try have hnc38:=Uc.out);obtain ⟨Jx,Kx,Mx,Ox,Ux,Xx,Jy,Ky,My,Oy,Uy,Xy⟩:=cells6 Ma.out
     go_wp2_with (first|((with_reducible refine gate_callee (f:=22) rfl ?_);refine goesL_ (some 35) rfl rfl Try.func22 (by kernel_rfl) rfl #[.agg #[I L Jb,I L Kb,I L Ub,I L Jc,Y Jd Kc.length Md],I L a1] rfl Z18 ?_;(with_reducible refine (impl_FairRest.calls k Jb Kb Ub Jc _ _ Kc a1 Je Ke Me Oe Jf Xj _ ?side1 ?side2 A35.out).mono ?_);(case side1=>exact pC_ ((Kd.R_reads' Oc.out).2.2));(case side2=>exact (Kd.R_reads' Oc.out).2.1);rintro e w40 ⟨Jz,rfl,ho0,hb⟩;refine ⟨_,rfl,?_⟩;have n_:=an_ (Kd.R_elder' (pR_ Oc.out) (Kd.R_base ho0) hb)<|an_ (Kd.S_elder' (pS_ Mc.out) (Kd.R_base ho0) hb)<|an_ (Kd.R_elder' (pR_ Xe.out) (Kd.R_base ho0) hb)<|an_ (Kd.R_lower (nw_ (nw_ ho0 (pR_ Oc.out)) (pR_ Xe.out)) (below_size (pB_ HB.out)))<|an_ (blk_below (pk_ Ka.out) hb)<|an_ (blk_below (pk_ Xa.out) hb)<|an_ (blk_below (pk_ Oa.out) hb)<|an_ (blk_below (pk_ Ma.out) hb)<|an_ (Kd.C_below Z16 hb)<|D (below_step (pB_ HB.out) hb);clear Oc Mc Xe Ka Xa Oa Ma HR476_5 HB;obtain ⟨Oc,Mc,Xe,Ji,Ka,Xa,Oa,Ma,HR476_5,HB⟩:=n_;(try clear hb);(try clear ho0);obtain ⟨Kz,Mz,Oz,Uz,Xz,Ja1,Ka1,Ma1,Oa1,Ua1,Xa1,Jb1⟩:=cells6 Ma.out;obtain ⟨Mf,Of,eo42⟩:=Kd.R_slice Ji.out;subst eo42;(try have hnb43:=Kg.out);(try have hnc43:=Jg.out);(try have hnb44:=Oh.out);(try have hnc44:=Mh.out);obtain ⟨Kb1,Mb1,Ob1,Ub1,Xb1,Jc1,Kc1,Mc1,Oc1,Uc1,Xc1,Jd1⟩:=cells6 Oa.out))
     refine bodyPost_ret (results_ct rfl _ _ Ua 37 #[I L Je,I L Ke,I L Me,I L Oe,Y Mf Jf.length Of,Y (some ad476) Mb.length Od] (0,0) _ rfl (by exact pP_ Oa.out) Try.underlying37 rfl (by kernel_rfl)) rfl ?_;exact ⟨_,_,er_,by (with_reducible repeat (first|apply Kd.R_alloc|apply Kd.R_drewN|apply Kd.R_drew));exact Kd.R_mono (fr_ (fr_ (fr_ (fr_ (fr_ (fr_ (Kd.R_far (p:=⟨Ja,4,none⟩) (Kd.R_far (p:=⟨Ja,3,none⟩) (Kd.R_far (p:=⟨Ja,2,none⟩) (Kd.R_far (p:=⟨Ja,1,none⟩) (Kd.R_far (p:=⟨Ja,0,none⟩) (Kd.R_types (Kd.R_types Ji.out Ma.out (by decide)) Oa.out (by decide)) (fun _ hk=>hk.1.2) (I L Je)) (fun _ hk=>hk.1.2) (I L Ke)) (fun _ hk=>hk.1.2) (I L Me)) (fun _ hk=>hk.1.2) (I L Oe)) (fun _ hk=>hk.1.2) (Y Mf Jf.length Of)) 0 (I L Je)) 1 (I L Ke)) 2 (I L Me)) 3 (I L Oe)) 4 (Y Mf Jf.length Of)) 5 (Y (some ad476) Mb.length Od)) (fun _ hk=>trivial),by (with_reducible repeat (first|apply Kd.S_alloc|apply Kd.S_drewN|apply Kd.S_drew));exact Kd.S_mono (Kd.S_far (p:=⟨Ua,5,none⟩) (Kd.S_far (p:=⟨Ua,4,none⟩) (Kd.S_far (p:=⟨Ua,3,none⟩) (Kd.S_far (p:=⟨Ua,2,none⟩) (Kd.S_far (p:=⟨Ua,1,none⟩) (Kd.S_far (p:=⟨Ua,0,none⟩) (Kd.S_far (p:=⟨Ja,4,none⟩) (Kd.S_far (p:=⟨Ja,3,none⟩) (Kd.S_far (p:=⟨Ja,2,none⟩) (Kd.S_far (p:=⟨Ja,1,none⟩) (Kd.S_far (p:=⟨Ja,0,none⟩) (Kd.S_types (Kd.S_types Mc.out Ma.out (by decide)) Oa.out (by decide)) (fun _ hk=>hk.1.2) (I L Je)) (fun _ hk=>hk.1.2) (I L Ke)) (fun _ hk=>hk.1.2) (I L Me)) (fun _ hk=>hk.1.2) (I L Oe)) (fun _ hk=>hk.1.2) (Y Mf Jf.length Of)) (fun _ hk=>hk.2) (I L Je)) (fun _ hk=>hk.2) (I L Ke)) (fun _ hk=>hk.2) (I L Me)) (fun _ hk=>hk.2) (I L Oe)) (fun _ hk=>hk.2) (Y Mf Jf.length Of)) (fun _ hk=>hk.2) (Y (some ad476) Mb.length Od)) (fun _ hk=>hk.1.1.2),pB_ HB.out⟩
   ·rw [if_neg c7] at H
    exact absurd H (by simp)
  ·rw [if_neg c6] at H
   exact absurd H (by simp)
 ·rw [if_neg c5] at H
  have c5b0:(Ue == 0)=false:=beq_eq_false_iff_ne.mpr c5;have c5b1:(Ue != 0)=true:=bne_iff_ne.mpr c5;simp only [Option.some.injEq,Prod.mk.injEq] at H;obtain ⟨rfl,rfl,rfl,rfl,rfl,rfl,rfl⟩:=H;go_enter Try.func7,Try.ntmps7
  go_wp2_with (first|((with_reducible refine gate_dst (N:=3) rfl ?_);refine bx_ (N:=3) (cs:=#[I L a0_0,I L a0_1,I L a0_2,I L a0_3,Y A0_4 l0_4.length c0_4,Y A0_5 l0_5.length c0_5]) (t:=37) ?_;intro Ob hg w46 hbox hb;have n_:=an_ (below_step (pB_ HB.out) hb)<|an_ (hbox)<|an_ (bg_ hg (pB_ HB.out):w.heap.size≤Ob)<|D (bg_ hg (pB_ HB.out):w.heap.size≤Ob);clear HB;obtain ⟨HB,Ka,Ki,Mi⟩:=n_;clear hb hbox hg)|((with_reducible refine gate_dst (N:=5) rfl ?_);refine bx_ (N:=5) (cs:=#[I L a2]) (t:=3) ?_;intro Xb hg w47 hbox hb;have n_:=an_ (blk_below (pk_ Ka.out) hb)<|an_ (below_step (pB_ HB.out) hb)<|an_ (hbox)<|an_ (bg_ hg (pB_ HB.out):w.heap.size≤Xb)<|an_ (bg_ hg (pB_ HB.out):w.heap.size≤Xb)<|an_ ((by rw [hg];exact Nat.ne_of_lt (blk_lt (pk_ Ka.out)):Ob≠Xb))<|D (by rw [hg];exact Nat.ne_of_gt (blk_lt (pk_ Ka.out)):Xb≠Ob);clear Ka HB;obtain ⟨Ka,HB,Xa,Oi,Ui,Uh,Xh⟩:=n_;clear hb hbox hg)|((with_reducible refine gate_dst (N:=6) rfl ?_);refine bx_ (N:=6) (cs:=#[I L 0,I L 0,I L 0,I L 0,Y none 0 0,Y none 0 0]) (t:=37) ?_;intro Ua hg w48 hbox hb;have n_:=an_ (blk_below (pk_ Ka.out) hb)<|an_ (blk_below (pk_ Xa.out) hb)<|an_ (below_step (pB_ HB.out) hb)<|an_ (hbox)<|an_ (bg_ hg (pB_ HB.out):w.heap.size≤Ua)<|an_ (bg_ hg (pB_ HB.out):w.heap.size≤Ua)<|an_ ((by rw [hg];exact Nat.ne_of_lt (blk_lt (pk_ Ka.out)):Ob≠Ua))<|an_ ((by rw [hg];exact Nat.ne_of_gt (blk_lt (pk_ Ka.out)):Ua≠Ob))<|an_ ((by rw [hg];exact Nat.ne_of_lt (blk_lt (pk_ Xa.out)):Xb≠Ua))<|D (by rw [hg];exact Nat.ne_of_gt (blk_lt (pk_ Xa.out)):Ua≠Xb);clear Ka Xa HB;obtain ⟨Ka,Xa,HB,Oa,Xi,Jj,Jg,Kg,Mh,Oh⟩:=n_;clear hb hbox hg;(try have hnb49:=Uh.out);(try have hnc49:=Xh.out);(try have hnb50:=Jg.out);(try have hnc50:=Kg.out);obtain ⟨Kd1,Md1,Od1,Ud1,Xd1,Je1,Ke1,Me1,Oe1,Ue1,Xe1,Jf1⟩:=cells6 Ka.out)|((with_reducible refine gate_callee (f:=20) rfl ?_);refine goesL_ (some 15) rfl rfl Try.func20 (by kernel_rfl) rfl #[.agg #[I L a0_0,I L a0_1,I L a0_2,I L a0_3,Y A0_4 l0_4.length c0_4,Y A0_5 l0_5.length c0_5],I L a1,.func (.func 21) #[] #[.pointer (some ⟨Xb,0,none⟩)]] rfl Z18 ?_;(with_reducible refine (impl_Tree_change.calls k a0_0 a0_1 a0_2 a0_3 _ _ l0_4 _ _ l0_5 a1 (fun z0_ z1_ z2_ z3_ z4_=>impl_TreeRest_1.f k z0_ z1_ z2_ z3_ z4_ a2) 21 #[.pointer (some ⟨Xb,0,none⟩)] Jb Kb Ub Jc Kc Mb Xc Ue _ ?side1 ?side2 ?side3 ?side4 ?side5 ?side6 A4.out).mono ?_);(case side1=>exact pC_ (Kd.C_below HR0_4.out HB.out));(case side2=>exact HC0_4.out);(case side3=>exact pC_ (Kd.C_below HR0_5.out HB.out));(case side4=>exact HC0_5.out);(case side5=>exact ⟨⟨_,Try.func21,by kernel_rfl,rfl⟩⟩);(case side6=>refine ⟨?_⟩;intro a900_0 a900_1 a900_2 a900_3 A900_4 c900_4 l900_4 rr0_ rr1_ rr2_ rr3_ rr4_ rr5_ W_ hW_ hr900_4 hc900_4 h_;refine calls_of_args (args':=#[.agg #[I L a900_0,I L a900_1,I L a900_2,I L a900_3,Y A900_4 l900_4.length c900_4],.pointer (some ⟨Xb,0,none⟩)]) (by simp) ?_;refine (impl_TreeRest_1.calls k a900_0 a900_1 a900_2 a900_3 A900_4 c900_4 l900_4 Xb a2 rr0_ rr1_ rr2_ rr3_ rr4_ rr5_ W_ hr900_4 hc900_4 (blk_below (pk_ Xa.out) hW_) h_).mono ?_;rintro e w' ⟨vv4_,rfl,ho4_,hd_⟩;exact ⟨vv4_,rfl,ho4_,hd_⟩);rintro e w52 ⟨Kj,Mj,rfl,ho0,ho1,hb⟩;refine ⟨_,rfl,?_⟩;have n_:=an_ (Kd.R_lower ho0 (below_size (pB_ HB.out)))<|an_ (Kd.S_lower ho1 (below_size (pB_ HB.out)))<|an_ (blk_below (pk_ Ka.out) hb)<|an_ (blk_below (pk_ Xa.out) hb)<|an_ (blk_below (pk_ Oa.out) hb)<|D (below_step (pB_ HB.out) hb);clear Ka Xa Oa HB;obtain ⟨Oc,Mc,Ka,Xa,Oa,HB⟩:=n_;(try clear hb);(try clear ho0);(try clear ho1))|((with_reducible refine gate_dst (N:=8) rfl ?_);refine bx_ (N:=8) (cs:=#[I L 0,I L 0,I L 0,I L 0,Y none 0 0,Y none 0 0]) (t:=37) ?_;intro Ja hg w53 hbox hb;have n_:=an_ (Kd.R_below (pR_ Oc.out) hb)<|an_ (Kd.S_below (pS_ Mc.out) hb)<|an_ (blk_below (pk_ Ka.out) hb)<|an_ (blk_below (pk_ Xa.out) hb)<|an_ (blk_below (pk_ Oa.out) hb)<|an_ (below_step (pB_ HB.out) hb)<|an_ (hbox)<|an_ (bg_ hg (pB_ HB.out):w.heap.size≤Ja)<|an_ (bg_ hg (pB_ HB.out):w.heap.size≤Ja)<|an_ ((by rw [hg];exact Nat.ne_of_lt (blk_lt (pk_ Ka.out)):Ob≠Ja))<|an_ ((by rw [hg];exact Nat.ne_of_gt (blk_lt (pk_ Ka.out)):Ja≠Ob))<|an_ ((by rw [hg];exact Nat.ne_of_lt (blk_lt (pk_ Xa.out)):Xb≠Ja))<|an_ ((by rw [hg];exact Nat.ne_of_gt (blk_lt (pk_ Xa.out)):Ja≠Xb))<|an_ ((by rw [hg];exact Nat.ne_of_lt (blk_lt (pk_ Oa.out)):Ua≠Ja))<|D (by rw [hg];exact Nat.ne_of_gt (blk_lt (pk_ Oa.out)):Ja≠Ua);clear Oc Mc Ka Xa Oa HB;obtain ⟨Oc,Mc,Ka,Xa,Oa,HB,Ma,Oj,Uj,Ud,Mg,Xd,Og,Uc,Ug⟩:=n_;clear hb hbox hg;(try have hnb54:=Mg.out);(try have hnc54:=Ud.out);(try have hnb55:=Og.out);(try have hnc55:=Xd.out);(try have hnb56:=Ug.out);(try have hnc56:=Uc.out);obtain ⟨Kf1,Mf1,Of1,Uf1,Xf1,Jg1,Kg1,Mg1,Og1,Ug1,Xg1,Jh1⟩:=cells6 Ma.out;obtain ⟨Uf,Xf,eo58⟩:=Kd.R_slice Oc.out;subst eo58;obtain ⟨Xg,Jh,eo59⟩:=Kd.S_slice Mc.out;subst eo59;(try have hnb60:=Oh.out);(try have hnc60:=Mh.out);obtain ⟨Kh1,Mh1,Oh1,Uh1,Xh1,Ji1,Ki1,Mi1,Oi1,Ui1,Xi1,Jj1⟩:=cells6 Oa.out))
  refine bodyPost_ret (results_ct rfl _ _ Ua 37 #[I L Jb,I L Kb,I L Ub,I L Jc,Y Uf Kc.length Xf,Y Xg Mb.length Jh] (0,0) _ rfl (by exact pP_ Oa.out) Try.underlying37 rfl (by kernel_rfl)) rfl ?_;exact ⟨_,_,er_,by (with_reducible repeat (first|apply Kd.R_alloc|apply Kd.R_drewN|apply Kd.R_drew));exact Kd.R_mono (fr_ (fr_ (fr_ (fr_ (fr_ (fr_ (Kd.R_far (p:=⟨Ja,5,none⟩) (Kd.R_far (p:=⟨Ja,4,none⟩) (Kd.R_far (p:=⟨Ja,3,none⟩) (Kd.R_far (p:=⟨Ja,2,none⟩) (Kd.R_far (p:=⟨Ja,1,none⟩) (Kd.R_far (p:=⟨Ja,0,none⟩) (Kd.R_types (Kd.R_types Oc.out Ma.out (by decide)) Oa.out (by decide)) (fun _ hk=>hk.1.2) (I L Jb)) (fun _ hk=>hk.1.2) (I L Kb)) (fun _ hk=>hk.1.2) (I L Ub)) (fun _ hk=>hk.1.2) (I L Jc)) (fun _ hk=>hk.1.2) (Y Uf Kc.length Xf)) (fun _ hk=>hk.1.2) (Y Xg Mb.length Jh)) 0 (I L Jb)) 1 (I L Kb)) 2 (I L Ub)) 3 (I L Jc)) 4 (Y Uf Kc.length Xf)) 5 (Y Xg Mb.length Jh)) (fun _ hk=>trivial),by (with_reducible repeat (first|apply Kd.S_alloc|apply Kd.S_drewN|apply Kd.S_drew));exact Kd.S_mono (Kd.S_far (p:=⟨Ua,5,none⟩) (Kd.S_far (p:=⟨Ua,4,none⟩) (Kd.S_far (p:=⟨Ua,3,none⟩) (Kd.S_far (p:=⟨Ua,2,none⟩) (Kd.S_far (p:=⟨Ua,1,none⟩) (Kd.S_far (p:=⟨Ua,0,none⟩) (Kd.S_far (p:=⟨Ja,5,none⟩) (Kd.S_far (p:=⟨Ja,4,none⟩) (Kd.S_far (p:=⟨Ja,3,none⟩) (Kd.S_far (p:=⟨Ja,2,none⟩) (Kd.S_far (p:=⟨Ja,1,none⟩) (Kd.S_far (p:=⟨Ja,0,none⟩) (Kd.S_types (Kd.S_types Mc.out Ma.out (by decide)) Oa.out (by decide)) (fun _ hk=>hk.1.2) (I L Jb)) (fun _ hk=>hk.1.2) (I L Kb)) (fun _ hk=>hk.1.2) (I L Ub)) (fun _ hk=>hk.1.2) (I L Jc)) (fun _ hk=>hk.1.2) (Y Uf Kc.length Xf)) (fun _ hk=>hk.1.2) (Y Xg Mb.length Jh)) (fun _ hk=>hk.2) (I L Jb)) (fun _ hk=>hk.2) (I L Kb)) (fun _ hk=>hk.2) (I L Ub)) (fun _ hk=>hk.2) (I L Jc)) (fun _ hk=>hk.2) (Y Uf Kc.length Xf)) (fun _ hk=>hk.2) (Y Xg Mb.length Jh)) (fun _ hk=>hk.1.1),pB_ HB.out⟩

/-! ### laws_eqVec: function 44 -/
def laws_eqVec.f (a0_0 a0_1 a0_2 a1_0 a1_1 a1_2 : Int) : Option (Bool) := if a0_0 = a1_0 then (if a0_1 = a1_1 then (if a0_2 = a1_2 then (some true) else (some false)) else (some false)) else (some false)
set_option maxHeartbeats 8000000 in
set_option maxRecDepth 100000 in
theorem laws_eqVec.calls (a0_0 a0_1 a0_2 a1_0 a1_1 a1_2 : Int) (r : Bool) (w : World) (h : laws_eqVec.f a0_0 a0_1 a0_2 a1_0 a1_1 a1_2 = some r) :
  Calls Try.prog 44 #[.agg #[I L a0_0,I L a0_1,I L a0_2],.agg #[I L a1_0,I L a1_1,I L a1_2]] w fun e w'=>e=.returned (.bool r)∧Below w.heap.size w w':=by
 have hu31 := Try.underlying31
 have HB := D (Below.refl w.heap.size w)
 have H : (if a0_0 = a1_0 then (if a0_1 = a1_1 then (if a0_2 = a1_2 then (some true) else (some false)) else (some false)) else (some false)) = some r := h
 clear h
 have HU3 := D H
 clear H
 go_enter Try.func44, Try.ntmps44
 go_upto_if 9 with (first|((with_reducible refine gate_dst (N:=2) rfl ?_);refine bx_ (N:=2) (cs:=#[I L a0_0,I L a0_1,I L a0_2]) (t:=31) ?_;intro gb486 hg w4 hbox hb;have n_:=an_ (below_step (pB_ HB.out) hb)<|an_ (hbox)<|an_ (bg_ hg (pB_ HB.out):w.heap.size≤gb486)<|D (bg_ hg (pB_ HB.out):w.heap.size≤gb486);clear HB;obtain ⟨HB,BK486,GW486,GE486⟩:=n_;clear hb hbox hg)|((with_reducible refine gate_dst (N:=3) rfl ?_);refine bx_ (N:=3) (cs:=#[I L a1_0,I L a1_1,I L a1_2]) (t:=31) ?_;intro gb487 hg w5 hbox hb;have n_:=an_ (blk_below (pk_ BK486.out) hb)<|an_ (below_step (pB_ HB.out) hb)<|an_ (hbox)<|an_ (bg_ hg (pB_ HB.out):w.heap.size≤gb487)<|an_ (bg_ hg (pB_ HB.out):w.heap.size≤gb487)<|an_ ((by rw [hg];exact Nat.ne_of_lt (blk_lt (pk_ BK486.out)):gb486≠gb487))<|D (by rw [hg];exact Nat.ne_of_gt (blk_lt (pk_ BK486.out)):gb487≠gb486);clear BK486 HB;obtain ⟨BK486,HB,BK487,GW487,GE487,NB486_487,NB487_486⟩:=n_;clear hb hbox hg;(try have hnb6:=NB486_487.out);(try have hnc6:=NB487_486.out);obtain ⟨hcz7_0,hcz7_1,hcz7_2,hfz7_0,hfz7_1,hfz7_2⟩:=cells3 BK486.out;obtain ⟨hcz8_0,hcz8_1,hcz8_2,hfz8_0,hfz8_1,hfz8_2⟩:=cells3 BK487.out))
 have H := HU3.out
 clear HU3
 by_cases c9 : a0_0 = a1_0
 ·rw [if_pos c9] at H
  have c9b0:(a0_0 == a1_0)=true:=beq_iff_eq.mpr c9;have c9b1:(a0_0 != a1_0)=false:=bne_eq_false_iff_eq.mpr c9;clear c9;refine rw_ c9b0 ?_
  by_cases c10 : a0_1 = a1_1
  ·rw [if_pos c10] at H
   have c10b0 : (a0_1 == a1_1) = true := beq_iff_eq.mpr c10; have c10b1 : (a0_1 != a1_1) = false := bne_eq_false_iff_eq.mpr c10; clear c10
   by_cases c11 : a0_2 = a1_2
   ·rw [if_pos c11] at H
    have c11b0:(a0_2 == a1_2)=true:=beq_iff_eq.mpr c11;have c11b1:(a0_2 != a1_2)=false:=bne_eq_false_iff_eq.mpr c11;clear c11;obtain rfl:=Option.some.inj H;(try have hnb12:=NB486_487.out);(try have hnc12:=NB487_486.out);obtain ⟨hcz13_0,hcz13_1,hcz13_2,hfz13_0,hfz13_1,hfz13_2⟩:=cells3 BK486.out;obtain ⟨hcz14_0,hcz14_1,hcz14_2,hfz14_0,hfz14_1,hfz14_2⟩:=cells3 BK487.out
    go_wp2
    go_ret; exact ⟨er_, pB_ HB.out⟩
   ·rw [if_neg c11] at H
    have c11b0:(a0_2 == a1_2)=false:=beq_eq_false_iff_ne.mpr c11;have c11b1:(a0_2 != a1_2)=true:=bne_iff_ne.mpr c11;obtain rfl:=Option.some.inj H;(try have hnb15:=NB486_487.out);(try have hnc15:=NB487_486.out);obtain ⟨hcz16_0,hcz16_1,hcz16_2,hfz16_0,hfz16_1,hfz16_2⟩:=cells3 BK486.out;obtain ⟨hcz17_0,hcz17_1,hcz17_2,hfz17_0,hfz17_1,hfz17_2⟩:=cells3 BK487.out
    go_wp2
    go_ret; exact ⟨er_, pB_ HB.out⟩
  ·rw [if_neg c10] at H
   have c10b0:(a0_1 == a1_1)=false:=beq_eq_false_iff_ne.mpr c10;have c10b1:(a0_1 != a1_1)=true:=bne_iff_ne.mpr c10;obtain rfl:=Option.some.inj H;(try have hnb18:=NB486_487.out);(try have hnc18:=NB487_486.out);obtain ⟨hcz19_0,hcz19_1,hcz19_2,hfz19_0,hfz19_1,hfz19_2⟩:=cells3 BK486.out;obtain ⟨hcz20_0,hcz20_1,hcz20_2,hfz20_0,hfz20_1,hfz20_2⟩:=cells3 BK487.out
   go_wp2
   go_ret; exact ⟨er_, pB_ HB.out⟩
 ·rw [if_neg c9] at H
  have c9b0:(a0_0 == a1_0)=false:=beq_eq_false_iff_ne.mpr c9;have c9b1:(a0_0 != a1_0)=true:=bne_iff_ne.mpr c9;refine rw_ c9b0 ?_;obtain rfl:=Option.some.inj H
  go_wp2
  go_ret; exact ⟨er_, pB_ HB.out⟩

/-! ### laws_eqKid: function 59 -/
def laws_eqKid.f (a0_0 a0_1 : Int) (a0_2 : Bool) (a0_3 a0_4 a0_5 a1_0 a1_1 : Int) (a1_2 : Bool) (a1_3 a1_4 a1_5 : Int) : Option (Bool) := if a0_0 = a1_0 then (if a0_1 = a1_1 then (if (a0_2 != a1_2) = true then (some false) else ((laws_eqVec.f a0_3 a0_4 a0_5 a1_3 a1_4 a1_5).bind fun t490 => (if t490 = true then (some true) else (some false)))) else (some false)) else (some false)
set_option maxHeartbeats 8000000 in
set_option maxRecDepth 100000 in
theorem laws_eqKid.calls (a0_0 a0_1 : Int) (a0_2 : Bool) (a0_3 a0_4 a0_5 a1_0 a1_1 : Int) (a1_2 : Bool) (a1_3 a1_4 a1_5 : Int) (r : Bool) (w : World) (h : laws_eqKid.f a0_0 a0_1 a0_2 a0_3 a0_4 a0_5 a1_0 a1_1 a1_2 a1_3 a1_4 a1_5 = some r) :
  Calls Try.prog 59 #[.agg #[I L a0_0,I L a0_1,.bool a0_2,I L a0_3,I L a0_4,I L a0_5],.agg #[I L a1_0,I L a1_1,.bool a1_2,I L a1_3,I L a1_4,I L a1_5]] w fun e w'=>e=.returned (.bool r)∧Below w.heap.size w w':=by
 have hu70 := Try.underlying70
 have hu31 := Try.underlying31
 have HB := D (Below.refl w.heap.size w)
 have H:(if a0_0=a1_0 then (if a0_1=a1_1 then (if (a0_2 != a1_2)=true then (some false) else ((laws_eqVec.f a0_3 a0_4 a0_5 a1_3 a1_4 a1_5).bind fun t490=>(if t490=true then (some true) else (some false)))) else (some false)) else (some false))=some r:=h
 clear h
 have HU3 := D H
 clear H
 go_enter Try.func59, Try.ntmps59
 go_upto_if 9 with (first|((with_reducible refine gate_dst (N:=2) rfl ?_);refine bx_ (N:=2) (cs:=#[I L a0_0,I L a0_1,.bool a0_2,I L a0_3,I L a0_4,I L a0_5]) (t:=70) ?_;intro gb488 hg w4 hbox hb;have n_:=an_ (below_step (pB_ HB.out) hb)<|an_ (hbox)<|an_ (bg_ hg (pB_ HB.out):w.heap.size≤gb488)<|D (bg_ hg (pB_ HB.out):w.heap.size≤gb488);clear HB;obtain ⟨HB,BK488,GW488,GE488⟩:=n_;clear hb hbox hg)|((with_reducible refine gate_dst (N:=3) rfl ?_);refine bx_ (N:=3) (cs:=#[I L a1_0,I L a1_1,.bool a1_2,I L a1_3,I L a1_4,I L a1_5]) (t:=70) ?_;intro gb489 hg w5 hbox hb;have n_:=an_ (blk_below (pk_ BK488.out) hb)<|an_ (below_step (pB_ HB.out) hb)<|an_ (hbox)<|an_ (bg_ hg (pB_ HB.out):w.heap.size≤gb489)<|an_ (bg_ hg (pB_ HB.out):w.heap.size≤gb489)<|an_ ((by rw [hg];exact Nat.ne_of_lt (blk_lt (pk_ BK488.out)):gb488≠gb489))<|D (by rw [hg];exact Nat.ne_of_gt (blk_lt (pk_ BK488.out)):gb489≠gb488);clear BK488 HB;obtain ⟨BK488,HB,BK489,GW489,GE489,NB488_489,NB489_488⟩:=n_;clear hb hbox hg;(try have hnb6:=NB488_489.out);(try have hnc6:=NB489_488.out);obtain ⟨hcz7_0,hcz7_1,hcz7_2,hcz7_3,hcz7_4,hcz7_5,hfz7_0,hfz7_1,hfz7_2,hfz7_3,hfz7_4,hfz7_5⟩:=cells6 BK488.out;obtain ⟨hcz8_0,hcz8_1,hcz8_2,hcz8_3,hcz8_4,hcz8_5,hfz8_0,hfz8_1,hfz8_2,hfz8_3,hfz8_4,hfz8_5⟩:=cells6 BK489.out))
 have H := HU3.out
 clear HU3
 by_cases c9 : a0_0 = a1_0
 ·rw [if_pos c9] at H
  have c9b0:(a0_0 == a1_0)=true:=beq_iff_eq.mpr c9;have c9b1:(a0_0 != a1_0)=false:=bne_eq_false_iff_eq.mpr c9;clear c9;refine rw_ c9b0 ?_
  by_cases c10 : a0_1 = a1_1
  ·rw [if_pos c10] at H
   have c10b0 : (a0_1 == a1_1) = true := beq_iff_eq.mpr c10; have c10b1 : (a0_1 != a1_1) = false := bne_eq_false_iff_eq.mpr c10; clear c10
   by_cases c11 : (a0_2 != a1_2) = true
   ·rw [if_pos c11] at H
    have c11b0:(a0_2 != a1_2)=true:=c11;(try (have c11b1:decide (a0_2=a1_2)=false:=by simpa using c11));(try (have c11b2:(a0_2 == a1_2)=false:=by simpa using c11));(try (have c11b3:¬ (a0_2=a1_2):=by simpa using c11));clear c11;obtain rfl:=Option.some.inj H;(try have hnb12:=NB488_489.out);(try have hnc12:=NB489_488.out);obtain ⟨hcz13_0,hcz13_1,hcz13_2,hcz13_3,hcz13_4,hcz13_5,hfz13_0,hfz13_1,hfz13_2,hfz13_3,hfz13_4,hfz13_5⟩:=cells6 BK488.out;obtain ⟨hcz14_0,hcz14_1,hcz14_2,hcz14_3,hcz14_4,hcz14_5,hfz14_0,hfz14_1,hfz14_2,hfz14_3,hfz14_4,hfz14_5⟩:=cells6 BK489.out
    go_wp2
    go_ret; exact ⟨er_, pB_ HB.out⟩
   ·rw [if_neg c11] at H
    have c11b0 : (a0_2 != a1_2) = false := by simpa using c11
    (try (have c11b1:decide (a0_2=a1_2)=true:=by simpa using c11));(try (have c11b2:(a0_2 == a1_2)=true:=by simpa using c11));clear c11;obtain ⟨t490,A150,H⟩:=bs_.mp H;(try dsimp only at H);have A15:=D A150;clear A150;have HU16:=D H;clear H;(try have hnb17:=NB488_489.out);(try have hnc17:=NB489_488.out);obtain ⟨hcz18_0,hcz18_1,hcz18_2,hcz18_3,hcz18_4,hcz18_5,hfz18_0,hfz18_1,hfz18_2,hfz18_3,hfz18_4,hfz18_5⟩:=cells6 BK488.out;obtain ⟨hcz19_0,hcz19_1,hcz19_2,hcz19_3,hcz19_4,hcz19_5,hfz19_0,hfz19_1,hfz19_2,hfz19_3,hfz19_4,hfz19_5⟩:=cells6 BK489.out
    go_upto_if 25 with (first|((with_reducible refine gate_callee (f:=44) rfl ?_);refine goesL_ (some 24) rfl rfl Try.func44 (by kernel_rfl) rfl #[.agg #[I L a0_3,I L a0_4,I L a0_5],.agg #[I L a1_3,I L a1_4,I L a1_5]] rfl Z18 ?_;(with_reducible refine (laws_eqVec.calls a0_3 a0_4 a0_5 a1_3 a1_4 a1_5 t490 _ A15.out).mono ?_);rintro e w20 ⟨rfl,hb⟩;refine ⟨_,rfl,?_⟩;have n_:=an_ (blk_below (pk_ BK488.out) hb)<|an_ (blk_below (pk_ BK489.out) hb)<|D (below_step (pB_ HB.out) hb);clear BK488 BK489 HB;obtain ⟨BK488,BK489,HB⟩:=n_;(try clear hb)))
    have H := HU16.out; clear HU16
    by_cases c21 : t490 = true
    ·subst c21
     rw [if_pos rfl] at H; obtain rfl := Option.some.inj H
     go_wp2
     go_ret; exact ⟨er_, pB_ HB.out⟩
    ·replace c21 := Bool.eq_false_iff.mpr c21
     subst c21; rw [if_neg (show ¬ (false = true) by decide)] at H; obtain rfl := Option.some.inj H
     go_wp2
     go_ret; exact ⟨er_, pB_ HB.out⟩
  ·rw [if_neg c10] at H
   have c10b0:(a0_1 == a1_1)=false:=beq_eq_false_iff_ne.mpr c10;have c10b1:(a0_1 != a1_1)=true:=bne_iff_ne.mpr c10;obtain rfl:=Option.some.inj H;(try have hnb22:=NB488_489.out);(try have hnc22:=NB489_488.out);obtain ⟨hcz23_0,hcz23_1,hcz23_2,hcz23_3,hcz23_4,hcz23_5,hfz23_0,hfz23_1,hfz23_2,hfz23_3,hfz23_4,hfz23_5⟩:=cells6 BK488.out;obtain ⟨hcz24_0,hcz24_1,hcz24_2,hcz24_3,hcz24_4,hcz24_5,hfz24_0,hfz24_1,hfz24_2,hfz24_3,hfz24_4,hfz24_5⟩:=cells6 BK489.out
   go_wp2
   go_ret; exact ⟨er_, pB_ HB.out⟩
 ·rw [if_neg c9] at H
  have c9b0:(a0_0 == a1_0)=false:=beq_eq_false_iff_ne.mpr c9;have c9b1:(a0_0 != a1_0)=true:=bne_iff_ne.mpr c9;refine rw_ c9b0 ?_;obtain rfl:=Option.some.inj H
  go_wp2
  go_ret; exact ⟨er_, pB_ HB.out⟩

/-! ### laws_eqKidS: function 45 -/
def laws_eqKidS.l0 : Nat → List (S70) → List (S70) → Int → Option (Bool)
 | 0, _, _, _ => none
 | k + 1,x0,x1,x5=>if x5 < (x0.length:Int) then (if 0≤x5 then (if x5 < (x1.length:Int) then ((laws_eqKid.f ((rd_T70 x0 x5).f0) ((rd_T70 x0 x5).f1) ((rd_T70 x0 x5).f2) ((rd_T70 x0 x5).f3.f0) ((rd_T70 x0 x5).f3.f1) ((rd_T70 x0 x5).f3.f2) ((rd_T70 x1 x5).f0) ((rd_T70 x1 x5).f1) ((rd_T70 x1 x5).f2) ((rd_T70 x1 x5).f3.f0) ((rd_T70 x1 x5).f3.f1) ((rd_T70 x1 x5).f3.f2)).bind fun t493=>(if t493=true then (laws_eqKidS.l0 k x0 x1 (wrap64 (x5 + 1))) else (some false))) else (none)) else (none)) else (some true)
def laws_eqKidS.f (k : Nat) (l0 l1 : List (S70)) : Option (Bool) := if (l0.length : Int) = (l1.length : Int) then (laws_eqKidS.l0 k l0 l1 0) else (some false)
def laws_eqKidS.T6 : Bool × List (List Nat × List Nat) := (true, [([], []), ([], []), ([0, 1], [0, 1]), ([2], [2]), ([], []), ([], []), ([4, 5], [4, 5]), ([6], [6]), ([3, 7], [3, 7]), ([8], [8])])
def laws_eqKidS.B6 : List Nat := [0, 0, 3, 7, 0, 0, 48, 112, 255, 511]
theorem laws_eqKidS.tab6 : rtab .any (opsOf Try.f45 6) = laws_eqKidS.T6 := by kernel_rfl
theorem laws_eqKidS.bits6 : waitsOk laws_eqKidS.T6.2 laws_eqKidS.B6 = true := by kernel_rfl
set_option maxHeartbeats 8000000 in
set_option maxRecDepth 100000 in
theorem laws_eqKidS.calls (k : Nat) (A0 : Option Addr) (c0 : Nat) (l0 : List (S70)) (A1 : Option Addr) (c1 : Nat) (l1 : List (S70)) (r : Bool) (w : World) (hr0 : Kd.C k70 w A0 l0.length l0) (hc0 : l0.length ≤ c0) (hr1 : Kd.C k70 w A1 l1.length l1) (hc1 : l1.length ≤ c1) (h : laws_eqKidS.f k l0 l1 = some r) :
  Calls Try.prog 45 #[Y A0 l0.length c0, Y A1 l1.length c1] w fun e w' => e = .returned (.bool r) ∧ Below w.heap.size w w' := by
 have hu70 := Try.underlying70
 have HR0 := D hr0
 have HC0 := D hc0
 clear hr0 hc0
 have HR1 := D hr1
 have HC1 := D hc1
 clear hr1 hc1
 have HB := D (Below.refl w.heap.size w)
 have H : (if (l0.length : Int) = (l1.length : Int) then (laws_eqKidS.l0 k l0 l1 0) else (some false)) = some r := h
 clear h
 by_cases c3 : (l0.length : Int) = (l1.length : Int)
 ·rw [if_pos c3] at H
  have c3b0 : ((l0.length : Int) == (l1.length : Int)) = true := beq_iff_eq.mpr c3; have c3b1 : ((l0.length : Int) != (l1.length : Int)) = false := bne_eq_false_iff_eq.mpr c3
  have c3b2 : (l0.length == l1.length) = true := by first | simpa using c3 | (simp at c3 ⊢; omega)
  clear c3; have H' := D H; clear H; go_enter Try.func45, Try.ntmps45
  go_wp2
  go_loopg [5] k (fun kq v5 w' => ∃ (x5_1 : Int), v5 = I L x5_1 ∧ Aside0 (laws_eqKidS.l0 kq l0 l1 x5_1 = some r) ∧ Aside0 (kq ≤ k) ∧ Aside0 (Below w.heap.size w w'))
  case atStart => exact ⟨(0), Z48, H', ⟨Nat.le_refl _⟩, ⟨pB_ HB.out⟩⟩
  case round =>
   clear H'
   try clear c1
   try clear p2
   try clear c3
   try clear c3b0
   try clear c3b1
   try clear c3b2
   obtain ⟨x5_1, rfl, HA, HK1, HB⟩ := hrel
   cases gk with
   | zero => exact absurd HA.out (by simp [laws_eqKidS.l0])
   | succ k1 =>
    have H := HA.out; clear HA; simp only [laws_eqKidS.l0] at H
    by_cases c4 : x5_1 < (l0.length : Int)
    ·rw [if_pos c4] at H
     have c4b0 : decide (x5_1 < (l0.length : Int)) = true := decide_eq_true c4; clear c4
     by_cases c5 : 0 ≤ x5_1
     ·rw [if_pos c5] at H
      have c5b0 : decide (0 ≤ x5_1) = true := decide_eq_true c5; clear c5
      by_cases c6 : x5_1 < (l1.length : Int)
      ·rw [if_pos c6] at H
       have c6b0:decide (x5_1 < (l1.length:Int))=true:=decide_eq_true c6;clear c6;obtain ⟨t493,A70,H⟩:=bs_.mp H;(try dsimp only at H);have A7:=D A70;clear A70;have HU8:=D H;clear H
       try go_wp2
       have n0_:=D (below_drew1 HB.out);clear HB;have HB:=n0_;clear n0_;have p491:0≤(x5_1:Int):=od_ Z47;have q491:x5_1 < (l0.length:Int):=od_ Z47;obtain ⟨ad491,e491,hx491_0,hx491_1,hx491_2,hx491_3,hx491_4,hx491_5⟩:=at_T70 HR0.out x5_1 p491 q491;have hw491_5:=hx491_5;have hw491_4:=hx491_4;have hw491_3:=hx491_3;have hw491_2:=hx491_2;have hw491_1:=hx491_1;have hw491_0:=hx491_0;cases e491;replace hx491_0:=rc_ HB.out hx491_0;replace hx491_1:=rc_ HB.out hx491_1;replace hx491_2:=rc_ HB.out hx491_2;replace hx491_3:=rc_ HB.out hx491_3;replace hx491_4:=rc_ HB.out hx491_4;replace hx491_5:=rc_ HB.out hx491_5;replace p491:=eq_true p491;replace q491:=eq_true q491;have p492:0≤(x5_1:Int):=od_ Z47;have q492:x5_1 < (l1.length:Int):=od_ Z47;obtain ⟨ad492,e492,hx492_0,hx492_1,hx492_2,hx492_3,hx492_4,hx492_5⟩:=at_T70 HR1.out x5_1 p492 q492;have hw492_5:=hx492_5;have hw492_4:=hx492_4;have hw492_3:=hx492_3;have hw492_2:=hx492_2;have hw492_1:=hx492_1;have hw492_0:=hx492_0;cases e492;replace hx492_0:=rc_ HB.out hx492_0;replace hx492_1:=rc_ HB.out hx492_1;replace hx492_2:=rc_ HB.out hx492_2;replace hx492_3:=rc_ HB.out hx492_3;replace hx492_4:=rc_ HB.out hx492_4;replace hx492_5:=rc_ HB.out hx492_5;replace p492:=eq_true p492;replace q492:=eq_true q492;refine start_ (n:=10) (S:=fun w'=>w'.cell? (ad491.add ((x5_1).toNat * 6))=some (I L ((rd_T70 l0 x5_1).f0))∧w'.cell? ⟨(ad491.add ((x5_1).toNat * 6)).block,(ad491.add ((x5_1).toNat * 6)).off + 1,none⟩=some (I L ((rd_T70 l0 x5_1).f1))∧w'.cell? ⟨(ad491.add ((x5_1).toNat * 6)).block,(ad491.add ((x5_1).toNat * 6)).off + 2,none⟩=some (.bool ((rd_T70 l0 x5_1).f2))∧w'.cell? ⟨(ad491.add ((x5_1).toNat * 6)).block,(ad491.add ((x5_1).toNat * 6)).off + 3,none⟩=some (I L ((rd_T70 l0 x5_1).f3.f0))∧w'.cell? ⟨(ad491.add ((x5_1).toNat * 6)).block,(ad491.add ((x5_1).toNat * 6)).off + 4,none⟩=some (I L ((rd_T70 l0 x5_1).f3.f1))∧w'.cell? ⟨(ad491.add ((x5_1).toNat * 6)).block,(ad491.add ((x5_1).toNat * 6)).off + 5,none⟩=some (I L ((rd_T70 l0 x5_1).f3.f2))∧w'.cell? (ad492.add ((x5_1).toNat * 6))=some (I L ((rd_T70 l1 x5_1).f0))∧w'.cell? ⟨(ad492.add ((x5_1).toNat * 6)).block,(ad492.add ((x5_1).toNat * 6)).off + 1,none⟩=some (I L ((rd_T70 l1 x5_1).f1))∧w'.cell? ⟨(ad492.add ((x5_1).toNat * 6)).block,(ad492.add ((x5_1).toNat * 6)).off + 2,none⟩=some (.bool ((rd_T70 l1 x5_1).f2))∧w'.cell? ⟨(ad492.add ((x5_1).toNat * 6)).block,(ad492.add ((x5_1).toNat * 6)).off + 3,none⟩=some (I L ((rd_T70 l1 x5_1).f3.f0))∧w'.cell? ⟨(ad492.add ((x5_1).toNat * 6)).block,(ad492.add ((x5_1).toNat * 6)).off + 4,none⟩=some (I L ((rd_T70 l1 x5_1).f3.f1))∧w'.cell? ⟨(ad492.add ((x5_1).toNat * 6)).block,(ad492.add ((x5_1).toNat * 6)).off + 5,none⟩=some (I L ((rd_T70 l1 x5_1).f3.f2))) (ds:=[]) (bz 10 0) (by kernel_rfl) rfl (by kernel_rfl) ⟨(rc_ HB.out hw491_0:),(rc_ HB.out hw491_1:),(rc_ HB.out hw491_2:),(rc_ HB.out hw491_3:),(rc_ HB.out hw491_4:),(rc_ HB.out hw491_5:),(rc_ HB.out hw492_0:),(rc_ HB.out hw492_1:),(rc_ HB.out hw492_2:),(rc_ HB.out hw492_3:),(rc_ HB.out hw492_4:),(rc_ HB.out hw492_5:)⟩ (fun hHeld=>?_);refine with_tabW laws_eqKidS.tab6 laws_eqKidS.bits6 (fun HT_ HW_=>?_)
       generalize wr.drew=w9 at HB hx491_0 hx491_1 hx491_2 hx491_3 hx491_4 hx491_5 hx492_0 hx492_1 hx492_2 hx492_3 hx492_4 hx492_5 hHeld ⊢;refine pa_ 0 17 10 1 HT_ ?_;refine pa_ 1 18 10 3 HT_ ?_;refine pa_ 2 19 10 7 HT_ ?_;refine pa_ 4 21 10 23 HT_ ?_;refine pa_ 5 22 10 55 HT_ ?_;refine pa_ 6 23 10 119 HT_ ?_;refine ta_ 3 20 10 127 HT_ HW_ rfl rfl hHeld Z42 ?_;refine ta_ 7 24 10 255 HT_ HW_ rfl rfl hHeld Z42 ?_;refine oa_ 8 25 10 511 HT_ (fun K hK=>?_);refine goes_ Try.func59 (by kernel_rfl) rfl #[.agg #[I L ((rd_T70 l0 x5_1).f0),I L ((rd_T70 l0 x5_1).f1),.bool ((rd_T70 l0 x5_1).f2),I L ((rd_T70 l0 x5_1).f3.f0),I L ((rd_T70 l0 x5_1).f3.f1),I L ((rd_T70 l0 x5_1).f3.f2)],.agg #[I L ((rd_T70 l1 x5_1).f0),I L ((rd_T70 l1 x5_1).f1),.bool ((rd_T70 l1 x5_1).f2),I L ((rd_T70 l1 x5_1).f3.f0),I L ((rd_T70 l1 x5_1).f3.f1),I L ((rd_T70 l1 x5_1).f3.f2)]] (by rfl) rfl rfl Z18 ?_;with_reducible refine (laws_eqKid.calls ((rd_T70 l0 x5_1).f0) ((rd_T70 l0 x5_1).f1) ((rd_T70 l0 x5_1).f2) ((rd_T70 l0 x5_1).f3.f0) ((rd_T70 l0 x5_1).f3.f1) ((rd_T70 l0 x5_1).f3.f2) ((rd_T70 l1 x5_1).f0) ((rd_T70 l1 x5_1).f1) ((rd_T70 l1 x5_1).f2) ((rd_T70 l1 x5_1).f3.f0) ((rd_T70 l1 x5_1).f3.f1) ((rd_T70 l1 x5_1).f3.f2) t493 _ A7.out).mono ?_
       rintro e w10 ⟨rfl,hb⟩;refine ⟨_,rfl,?_⟩;have n0_:=D (below_step (pB_ HB.out) hb);clear HB;have HB:=n0_;clear n0_;(try clear hb);refine hK.out _ _ ⟨(rc_ HB.out hw491_0:),(rc_ HB.out hw491_1:),(rc_ HB.out hw491_2:),(rc_ HB.out hw491_3:),(rc_ HB.out hw491_4:),(rc_ HB.out hw491_5:),(rc_ HB.out hw492_0:),(rc_ HB.out hw492_1:),(rc_ HB.out hw492_2:),(rc_ HB.out hw492_3:),(rc_ HB.out hw492_4:),(rc_ HB.out hw492_5:)⟩ (fun hHeld=>?_);clear hK K;refine nx_ (N:=some 25) ?_;refine pa_ 9 26 10 1023 HT_ ?_;refine done_ (done_of HT_.out (by kernel_rfl)) ?_
       go_upto_if 26 with (fail)
       have H := HU8.out; clear HU8
       by_cases c11 : t493 = true
       ·subst c11
        rw [if_pos rfl] at H; have H' := D H; clear H
        go_wp2
        go_roundg k1
        case measure => have := HK1.out; omega
        case rel => exact ⟨(wrap64 (x5_1 + 1)), Z48, H', ⟨by have := HK1.out; omega⟩, ⟨pB_ HB.out⟩⟩
       ·replace c11 := Bool.eq_false_iff.mpr c11
        subst c11; rw [if_neg (show ¬ (false = true) by decide)] at H; obtain rfl := Option.some.inj H
        go_wp2
        go_ret; exact ⟨er_, pB_ HB.out⟩
      ·rw [if_neg c6] at H
       exact absurd H (by simp)
     ·rw [if_neg c5] at H
      exact absurd H (by simp)
    ·rw [if_neg c4] at H
     have c4b0 : decide (x5_1 < (l0.length : Int)) = false := decide_eq_false c4; clear c4; obtain rfl := Option.some.inj H
     go_wp2
     go_ret; exact ⟨er_, pB_ HB.out⟩
 ·rw [if_neg c3] at H
  have c3b0 : ((l0.length : Int) == (l1.length : Int)) = false := beq_eq_false_iff_ne.mpr c3; have c3b1 : ((l0.length : Int) != (l1.length : Int)) = true := bne_iff_ne.mpr c3
  have c3b2 : (l0.length == l1.length) = false := by first | simpa using c3 | (simp at c3 ⊢; omega)
  obtain rfl := Option.some.inj H; go_enter Try.func45, Try.ntmps45
  go_wp2
  go_ret; exact ⟨er_, pB_ HB.out⟩

end Go.Proofs.Ytolphjnajopknab.PFnExactTreeRest
