-- by a program of this session's, over the kit's words
import Derived.Test.YtpkdkhhknmlpjaaPZFnTakenAdds
import Derived.Test.YtpkdkhhknmlpjaaPFnTakenAddsx0
import Derived.Test.YtpkdkhhknmlpjaaPFnTakenAddsx2
import Derived.Test.YtpkdkhhknmlpjaaPFnTakenAddsx3
import Derived.Test.YtpkdkhhknmlpjaaPFnTakenAddsx4
namespace Go.Proofs.Ytpkdkhhknmlpjaa.PFnTakenAdds
open Go.RowKit Go.Proofs.YtpkdkhhknmlpjaaW.PrintWords Go.Proofs.YtpkdkhhknmlpjaaW.PrintLast Go.Proofs.YtpkdkhhknmlpjaaW.PrintMore Go.Proofs.YtpkdkhhknmlpjaaV Go.Proofs.Ytpkdkhhknmlpjaa.ZFnTakenAdds
open Go.Value renaming int → I, slice → Y
open Go.IntKind renaming i64 → L
open Aside0 renaming mk → D
open Option renaming bind_eq_some_iff → bs_
attribute [local go_sem] max2_int min2_int max_two min_two max_three min_three max_four min_four   -- for this text's walks alone
set_option linter.unusedVariables false
set_option linter.unusedSimpArgs false

/-! ### spec_FairRest: function 53 -/
def spec_FairRest.f (k : Nat) (a0_0 a0_1 a0_2 a0_3 : Int) (l0_4 : List (S83)) (a1 : Int) : Option (Int × Int × Int × Int × (List (S83)) × Int) := (spec_FairOk.f k a0_0 a0_1 a0_2 a0_3 l0_4).bind fun t227 => (if t227 = true then ((spec_l18At.f k a0_0 a0_1 a0_2 a0_3 l0_4 a1).bind fun t228 => (if t228 < 0 then (some (0, 0, 0, 0, ([] : List (S83)), 4)) else (if 0 ≤ t228 then (if t228 < (l0_4.length : Int) then (if ((rd_T83 l0_4 t228).f2 = true) then ((spec_l18Copy.f a0_0 a0_1 a0_2 a0_3 l0_4).bind fun bt230 => (if t228 < (bt230.2.2.2.2.length : Int) then (some (bt230.1, bt230.2.1, bt230.2.2.1, bt230.2.2.2.1, (bt230.2.2.2.2.set (t228 : Int).toNat (⟨(rd_T83 bt230.2.2.2.2 t228).f0, (rd_T83 bt230.2.2.2.2 t228).f1, false, (⟨(rd_T83 bt230.2.2.2.2 t228).f3.f0, (rd_T83 bt230.2.2.2.2 t228).f3.f1, (rd_T83 bt230.2.2.2.2 t228).f3.f2⟩ : S29)⟩ : S83)), 0)) else (none))) else (some (0, 0, 0, 0, ([] : List (S83)), 6))) else (none)) else (none)))) else (some (0, 0, 0, 0, ([] : List (S83)), 1)))
set_option maxHeartbeats 8000000 in
set_option maxRecDepth 100000 in
theorem spec_FairRest.calls (k : Nat) (a0_0 a0_1 a0_2 a0_3 : Int) (A0_4 : Option Addr) (c0_4 : Nat) (l0_4 : List (S83)) (a1 r1 r2 r3 r4 : Int) (r5 : List (S83)) (r6 : Int) (w : World) (hr0_4 : Kd.C k83 w A0_4 l0_4.length l0_4) (hc0_4 : l0_4.length ≤ c0_4) (h : spec_FairRest.f k a0_0 a0_1 a0_2 a0_3 l0_4 a1 = some (r1, r2, r3, r4, r5, r6)) :
  Calls Try.prog 53 #[.agg #[I L a0_0,I L a0_1,I L a0_2,I L a0_3,Y A0_4 l0_4.length c0_4],I L a1] w fun e w'=>∃ v4_:Value,e=.returned (.tuple #[.agg #[I L r1,I L r2,I L r3,I L r4,v4_],I L r6])∧Kd.R k83 83 w' w.heap.size (fun _=>True) v4_ r5∧Below w.heap.size w w':=by
 have hu59 := Try.underlying59
 have HR0_4 := D hr0_4
 have HC0_4 := D hc0_4
 clear hr0_4 hc0_4
 have HB := D (Below.refl w.heap.size w)
 have H:((spec_FairOk.f k a0_0 a0_1 a0_2 a0_3 l0_4).bind fun Md=>(if Md=true then ((spec_l18At.f k a0_0 a0_1 a0_2 a0_3 l0_4 a1).bind fun Ja=>(if Ja < 0 then (some (0,0,0,0,([]:List (S83)),4)) else (if 0≤Ja then (if Ja < (l0_4.length:Int) then (if ((rd_T83 l0_4 Ja).f2=true) then ((spec_l18Copy.f a0_0 a0_1 a0_2 a0_3 l0_4).bind fun bt230=>(if Ja < (bt230.2.2.2.2.length:Int) then (some (bt230.1,bt230.2.1,bt230.2.2.1,bt230.2.2.2.1,(bt230.2.2.2.2.set (Ja:Int).toNat (⟨(rd_T83 bt230.2.2.2.2 Ja).f0,(rd_T83 bt230.2.2.2.2 Ja).f1,false,(⟨(rd_T83 bt230.2.2.2.2 Ja).f3.f0,(rd_T83 bt230.2.2.2.2 Ja).f3.f1,(rd_T83 bt230.2.2.2.2 Ja).f3.f2⟩:S29)⟩:S83)),0)) else (none))) else (some (0,0,0,0,([]:List (S83)),6))) else (none)) else (none)))) else (some (0,0,0,0,([]:List (S83)),1))))=some (r1,r2,r3,r4,r5,r6):=h
 clear h
 obtain ⟨Md, A30, H⟩ := bs_.mp H
 (try dsimp only at H)
 have A3 := D A30
 clear A30
 have HU4 := D H
 clear H
 go_enter Try.func53, Try.ntmps53
 go_upto_if 10 with (first|((with_reducible refine gate_dst (N:=2) rfl ?_);refine bx_ (N:=2) (cs:=#[I L a0_0,I L a0_1,I L a0_2,I L a0_3,Y A0_4 l0_4.length c0_4]) (t:=59) ?_;intro Xb hg w5 hbox hb;have n_:=an_ (below_step (pB_ HB.out) hb)<|an_ (hbox)<|an_ (bg_ hg (pB_ HB.out):w.heap.size≤Xb)<|D (bg_ hg (pB_ HB.out):w.heap.size≤Xb);clear HB;obtain ⟨HB,Ma,Ke,Me⟩:=n_;clear hb hbox hg)|((with_reducible refine gate_dst (N:=4) rfl ?_);refine bx_ (N:=4) (cs:=#[I L 0,I L 0,I L 0,I L 0,Y none 0 0]) (t:=59) ?_;intro Mb hg w6 hbox hb;have n_:=an_ (blk_below (pk_ Ma.out) hb)<|an_ (below_step (pB_ HB.out) hb)<|an_ (hbox)<|an_ (bg_ hg (pB_ HB.out):w.heap.size≤Mb)<|an_ (bg_ hg (pB_ HB.out):w.heap.size≤Mb)<|an_ (nl_ hg (pk_ Ma.out):Xb≠Mb)<|D (by rw [hg];exact Nat.ne_of_gt (blk_lt (pk_ Ma.out)):Mb≠Xb);clear Ma HB;obtain ⟨Ma,HB,Oa,Oe,Ue,Mc,Oc⟩:=n_;clear hb hbox hg;(try have:=Mc.out);(try have:=Oc.out);have Xe:=cells5 Ma.out)|((with_reducible refine gate_callee (f:=48) rfl ?_);refine goesL_ (some 9) rfl rfl Try.func48 (by kernel_rfl) rfl #[.agg #[I L a0_0,I L a0_1,I L a0_2,I L a0_3,Y A0_4 l0_4.length c0_4]] rfl Z20 ?_;(with_reducible refine (spec_FairOk.calls k a0_0 a0_1 a0_2 a0_3 _ _ l0_4 Md _ ?side1 ?side2 A3.out).mono ?_);(case side1=>exact pC_ (Kd.C_below HR0_4.out HB.out));(case side2=>exact HC0_4.out);rintro e w9 ⟨rfl,hb⟩;refine ⟨_,rfl,?_⟩;have n_:=an_ (blk_below (pk_ Ma.out) hb)<|an_ (blk_below (pk_ Oa.out) hb)<|D (below_step (pB_ HB.out) hb);clear Ma Oa HB;obtain ⟨Ma,Oa,HB⟩:=n_;(try clear hb)))
 have H := HU4.out
 clear HU4
 by_cases c10 : Md = true
 ·subst c10
  rw [if_pos rfl] at H;obtain ⟨Ja,A110,H⟩:=bs_.mp H;(try dsimp only at H);have A11:=D A110;clear A110;have HU12:=D H;clear H;(try have:=Mc.out);(try have:=Oc.out);have Og:=cells5 Ma.out
  go_upto_if 16 with (first|((with_reducible refine gate_callee (f:=68) rfl ?_);refine goesL_ (some 14) rfl rfl Try.func68 (by kernel_rfl) rfl #[.agg #[I L a0_0,I L a0_1,I L a0_2,I L a0_3,Y A0_4 l0_4.length c0_4],I L a1] rfl Z20 ?_;(with_reducible refine (spec_l18At.calls k a0_0 a0_1 a0_2 a0_3 _ _ l0_4 a1 Ja _ ?side1 ?side2 A11.out).mono ?_);(case side1=>exact pC_ (Kd.C_below HR0_4.out HB.out));(case side2=>exact HC0_4.out);rintro e w15 ⟨rfl,hb⟩;refine ⟨_,rfl,?_⟩;have n_:=an_ (blk_below (pk_ Ma.out) hb)<|an_ (blk_below (pk_ Oa.out) hb)<|D (below_step (pB_ HB.out) hb);clear Ma Oa HB;obtain ⟨Ma,Oa,HB⟩:=n_;(try clear hb)))
  have H := HU12.out; clear HU12
  by_cases c16 : Ja < 0
  ·rw [if_pos c16] at H
   have c16b0:decide (Ja < 0)=true:=decide_eq_true c16;clear c16;refine rw_ c16b0 ?_;simp only [Option.some.injEq,Prod.mk.injEq] at H;obtain ⟨rfl,rfl,rfl,rfl,rfl,rfl⟩:=H;(try have:=Oc.out);(try have:=Mc.out);have Ki:=cells5 Oa.out
   go_wp2
   refine bodyPost_ret (results_ct rfl _ _ Mb 59 #[I L 0,I L 0,I L 0,I L 0,Y none 0 0] (0,0) _ rfl Z8 Try.underlying59 rfl (by kernel_rfl)) rfl ?_;exact ⟨_,er_,by first|exact Kd.R_nil _ _ _ _ _|exact Kd.N_nil _ _ _ _ _|exact Kd.V_nil _ _ _ _ _|exact Kd.Q_nil _ _ _ _ _|exact Kd.S_nil _ _ _ _ _,pB_ HB.out⟩
  ·rw [if_neg c16] at H
   have c16b0:decide (Ja < 0)=false:=decide_eq_false c16;clear c16;refine rw_ c16b0 ?_
   by_cases c19 : 0 ≤ Ja
   ·rw [if_pos c19] at H
    have c19b0 : decide (0 ≤ Ja) = true := decide_eq_true c19; clear c19
    by_cases c20 : Ja < (l0_4.length : Int)
    ·rw [if_pos c20] at H
     have c20b0:decide (Ja < (l0_4.length:Int))=true:=decide_eq_true c20;clear c20;have HU21:=D H;clear H;(try have:=Mc.out);(try have:=Oc.out);have Xj:=cells5 Ma.out;have p229:0≤(Ja:Int):=od_ Z68;have q229:Ja < (l0_4.length:Int):=od_ Z68;obtain ⟨ad229,e229,hx229_0,hx229_1,hx229_2,hx229_3,hx229_4,hx229_5⟩:=at_T83 HR0_4.out Ja p229 q229;cases e229;replace hx229_0:=rc_ HB.out hx229_0;replace hx229_1:=rc_ HB.out hx229_1;replace hx229_2:=rc_ HB.out hx229_2;replace hx229_3:=rc_ HB.out hx229_3;replace hx229_4:=rc_ HB.out hx229_4;replace hx229_5:=rc_ HB.out hx229_5;replace p229:=eq_true p229;replace q229:=eq_true q229
     go_upto_if 24 with (fail)
     have H := HU21.out; clear HU21; obtain ⟨bq24, hbq24⟩ : ∃ b_ : Bool, b_ = ((rd_T83 l0_4 Ja).f2) := ⟨_, rfl⟩
     replace H:(if (bq24=true) then ((spec_l18Copy.f a0_0 a0_1 a0_2 a0_3 l0_4).bind fun bt230=>(if Ja < (bt230.2.2.2.2.length:Int) then (some (bt230.1,bt230.2.1,bt230.2.2.1,bt230.2.2.2.1,(bt230.2.2.2.2.set (Ja:Int).toNat (⟨(rd_T83 bt230.2.2.2.2 Ja).f0,(rd_T83 bt230.2.2.2.2 Ja).f1,false,(⟨(rd_T83 bt230.2.2.2.2 Ja).f3.f0,(rd_T83 bt230.2.2.2.2 Ja).f3.f1,(rd_T83 bt230.2.2.2.2 Ja).f3.f2⟩:S29)⟩:S83)),0)) else (none))) else (some (0,0,0,0,([]:List (S83)),6)))=some (r1,r2,r3,r4,r5,r6):=by rw [← hbq24] at H;exact H
     have Nbq24 := D hbq24; clear hbq24; (try rw [← Nbq24.out])
     by_cases c25 : (bq24 = true)
     ·subst c25;(try simp only [Bool.not_true,Bool.not_false])
      rw [if_pos rfl] at H; obtain ⟨⟨Kb, Ob, Ub, Jc, Ka⟩, A260, H⟩ := bs_.mp H; (try dsimp only at H); have A26 := D A260; clear A260
      by_cases c27 : Ja < (Ka.length : Int)
      ·rw [if_pos c27] at H
       have c27b0:decide (Ja < (Ka.length:Int))=true:=decide_eq_true c27;clear c27;obtain ⟨y238,hy238⟩:∃ y_:List (S83),y_=(Ka.set (Ja:Int).toNat (⟨(rd_T83 Ka Ja).f0,(rd_T83 Ka Ja).f1,false,(⟨(rd_T83 Ka Ja).f3.f0,(rd_T83 Ka Ja).f3.f1,(rd_T83 Ka Ja).f3.f2⟩:S29)⟩:S83)):=⟨_,rfl⟩
       replace H:(some (Kb,Ob,Ub,Jc,y238,0))=some (r1,r2,r3,r4,r5,r6):=by first|(rw [hy238];with_reducible exact H)|(have H2_:=(Option.bind_some _ _).symm.trans H;rw [hy238];with_reducible exact H2_)|(have H2_:=(Option.bind_some _ _).symm.trans H;with_reducible exact H2_)|with_reducible exact H|(rw [hy238];exact H)|exact H
       have Ny238:=D hy238;clear hy238;simp only [Option.some.injEq,Prod.mk.injEq] at H;obtain ⟨rfl,rfl,rfl,rfl,rfl,rfl⟩:=H;(try have:=Mc.out);(try have:=Oc.out);have Om:=cells5 Ma.out
       go_wp2_with (first|((with_reducible refine gate_callee (f:=49) rfl ?_);refine goesL_ (some 27) rfl rfl Try.func49 (by kernel_rfl) rfl #[.agg #[I L a0_0,I L a0_1,I L a0_2,I L a0_3,Y (some ad229) l0_4.length c0_4]] rfl Z20 ?_;(with_reducible refine (spec_l18Copy.calls a0_0 a0_1 a0_2 a0_3 _ _ l0_4 Kb Ob Ub Jc Ka _ ?side1 ?side2 A26.out).mono ?_);(case side1=>exact pC_ (Kd.C_below HR0_4.out HB.out));(case side2=>exact HC0_4.out);rintro e w31 ⟨Ko,rfl,ho0,hb⟩;refine ⟨_,rfl,?_⟩;have n_:=an_ (Kd.R_lower ho0 (below_size (pB_ HB.out)))<|an_ (blk_below (pk_ Ma.out) hb)<|an_ (blk_below (pk_ Oa.out) hb)<|D (below_step (pB_ HB.out) hb);clear Ma Oa HB;obtain ⟨Jb,Ma,Oa,HB⟩:=n_;(try clear hb);(try clear ho0))|((with_reducible refine gate_dst (N:=7) rfl ?_);refine bx_ (N:=7) (cs:=#[I L 0,I L 0,I L 0,I L 0,Y none 0 0]) (t:=59) ?_;intro Xa hg w32 hbox hb;have n_:=an_ (Kd.R_below (pR_ Jb.out) hb)<|an_ (blk_below (pk_ Ma.out) hb)<|an_ (blk_below (pk_ Oa.out) hb)<|an_ (below_step (pB_ HB.out) hb)<|an_ (hbox)<|an_ (bg_ hg (pB_ HB.out):w.heap.size≤Xa)<|an_ (bg_ hg (pB_ HB.out):w.heap.size≤Xa)<|an_ (nl_ hg (pk_ Ma.out):Xb≠Xa)<|an_ (ng_ hg (pk_ Ma.out):Xa≠Xb)<|an_ (nl_ hg (pk_ Oa.out):Mb≠Xa)<|D (by rw [hg];exact Nat.ne_of_gt (blk_lt (pk_ Oa.out)):Xa≠Mb);clear Jb Ma Oa HB;obtain ⟨Jb,Ma,Oa,HB,Ua,Mo,Oo,Uc,Ud,Xc,Xd⟩:=n_;clear hb hbox hg;(try have:=Ud.out);(try have:=Uc.out);(try have:=Xd.out);(try have:=Xc.out);have Uo:=cells5 Ua.out;obtain ⟨Jd,Kc,eo36⟩:=Kd.R_slice Jb.out;subst eo36)|((with_reducible refine gate_store (t:=59) (p:=7) rfl ?_);refine store_event (t:=59) (p:=7) (v:=?vo_w37) (w1:=(((((w32.setCell ⟨Xa,0,none⟩ (I L Kb)).setCell ⟨Xa,1,none⟩ (I L Ob)).setCell ⟨Xa,2,none⟩ (I L Ub)).setCell ⟨Xa,3,none⟩ (I L Jc)).setCell ⟨Xa,4,none⟩ (Y Jd Ka.length Kc))) ?hg ?ho ?hn ?hr ?_;(case ho=>rfl);(case hg=>rfl);(case hn=>rfl);(case hr=>first|(go_simp;done)|(go_simp;rfl));intro w37 hw;have n0_:Aside0 (Kd.R k83 83 w37 w.heap.size (fun _=>True) (Y Jd Ka.length Kc) Ka):=⟨(by rw [hw];exact (rM_ (Kd.R_types Jb.out Ua.out (by decide)) (fun _ hk=>trivial)))⟩;have n1_:Aside0 (w37.heap[Xb]?=some (.cells #[I L a0_0,I L a0_1,I L a0_2,I L a0_3,Y (some ad229) l0_4.length c0_4] 59 (0,0))):=⟨(by rw [hw];exact (by exact pP_ Ma.out))⟩;have n2_:Aside0 (w37.heap[Mb]?=some (.cells #[I L 0,I L 0,I L 0,I L 0,Y none 0 0] 59 (0,0))):=⟨(by rw [hw];exact (by exact pP_ Oa.out))⟩;have n3_:Aside0 (w37.heap[Xa]?=some (.cells #[I L Kb,I L Ob,I L Ub,I L Jc,Y Jd Ka.length Kc] 59 (0,0))):=⟨(by rw [hw];exact (by exact pP_ Ua.out))⟩;have n4_:Aside0 (Below w.heap.size w w37):=⟨(by rw [hw];exact (pB_ HB.out))⟩;clear hw;clear Jb;clear Ma;clear Oa;clear Ua;clear HB;have Jb:=n0_;have Ma:=n1_;have Oa:=n2_;have Ua:=n3_;have HB:=n4_;clear n0_ n1_ n2_ n3_ n4_;have Mq:=cells5 Ua.out;have p28:0≤(Ja:Int):=od_ Z68;have q28:(Ja:Int) < ((Ka.length:Int):Int):=od_ Z68;obtain ⟨go28,Js,eo28,Od,gl28,cl28,HG28⟩:=Kd.R_form Jb.out (by omega);(first|cases eo28|(injection eo28 with ea_ en_ ec_;(first|subst ea_|(injection ea_ with ea_;subst ea_));subst ec_;clear en_));have GB28:=D Od;have GG28:=D HG28;clear Od gl28 HG28;obtain ⟨ce28,hcl28,hM28,hcc28,hfr28⟩:=Kd.R_elem Jb.out z83 (Ja:Int) p28 q28;obtain rfl:=k83_openM hM28;have hx28_0:w37.cell? ⟨go28,(Ja:Int).toNat * 6,none⟩=some (I L ((rd_T83 Ka Ja).f0)):=hcc28 0 _ rfl;have hx28_1:w37.cell? ⟨go28,(Ja:Int).toNat * 6 + 1,none⟩=some (I L ((rd_T83 Ka Ja).f1)):=hcc28 1 _ rfl;have hx28_2:w37.cell? ⟨go28,(Ja:Int).toNat * 6 + 2,none⟩=some (.bool ((rd_T83 Ka Ja).f2)):=hcc28 2 _ rfl;have hx28_3:w37.cell? ⟨go28,(Ja:Int).toNat * 6 + 3,none⟩=some (I L ((rd_T83 Ka Ja).f3.f0)):=hcc28 3 _ rfl;have hx28_4:w37.cell? ⟨go28,(Ja:Int).toNat * 6 + 4,none⟩=some (I L ((rd_T83 Ka Ja).f3.f1)):=hcc28 4 _ rfl;have hx28_5:w37.cell? ⟨go28,(Ja:Int).toNat * 6 + 5,none⟩=some (I L ((rd_T83 Ka Ja).f3.f2)):=hcc28 5 _ rfl;have hf28_0:w37.frozen? ⟨go28,(Ja:Int).toNat * 6,none⟩=false:=hfr28 0;have hf28_1:w37.frozen? ⟨go28,(Ja:Int).toNat * 6 + 1,none⟩=false:=hfr28 1;have hf28_2:w37.frozen? ⟨go28,(Ja:Int).toNat * 6 + 2,none⟩=false:=hfr28 2;have hf28_3:w37.frozen? ⟨go28,(Ja:Int).toNat * 6 + 3,none⟩=false:=hfr28 3;have hf28_4:w37.frozen? ⟨go28,(Ja:Int).toNat * 6 + 4,none⟩=false:=hfr28 4;have hf28_5:w37.frozen? ⟨go28,(Ja:Int).toNat * 6 + 5,none⟩=false:=hfr28 5;clear hcl28 hcc28 hfr28 hM28;replace p28:=eq_true p28;replace q28:=eq_true q28;have HX39:=D (show Kd.R k83 83 w37 w.heap.size (fun _=>True) (Y (some ⟨go28,0,none⟩) Ka.length Kc) Ka from (pR_ Jb.out));obtain ⟨ce39,hcl39,hM39,hcc39,hfr39⟩:=Kd.R_elem HX39.out z83 (Ja:Int) (od_ Z68) (by have h_:(Ja:Int) < ((Ka.length:Int):Int):=od_ Z68;first|exact h_|(have e_:=(Kd.R_reads' Jb.out).1;omega)|simpa using h_);obtain rfl:=k83_openM hM39;have HP39:=Kd.R_seg HX39.out (Ja:Int) (od_ Z68) (by have h_:(Ja:Int) < ((Ka.length:Int):Int):=od_ Z68;first|exact h_|(have e_:=(Kd.R_reads' Jb.out).1;omega)|simpa using h_) (seg:=[.bool false]) (j:=2) hcl39 hcc39 (show 3≤6 from by decide) (x':=(⟨(rd_T83 Ka Ja).f0,(rd_T83 Ka Ja).f1,false,(⟨(rd_T83 Ka Ja).f3.f0,(rd_T83 Ka Ja).f3.f1,(rd_T83 Ka Ja).f3.f2⟩:S29)⟩:S83)) (k83_mkM _ _ _ (⟨(rd_T83 Ka Ja).f0,(rd_T83 Ka Ja).f1,false,(⟨(rd_T83 Ka Ja).f3.f0,(rd_T83 Ka Ja).f3.f1,(rd_T83 Ka Ja).f3.f2⟩:S29)⟩:S83) ) (fun _ hk=>hk);have hx39_2:=hcc39 2 _ rfl;(try simp only [show (k83).sz=6 from rfl,Nat.mul_one,Nat.add_zero] at hx39_2);have hf39_2:=hfr39 2;(try simp only [show (k83).sz=6 from rfl,Nat.mul_one,Nat.add_zero] at hf39_2);clear hcl39 hcc39 hfr39 hM39)|((with_reducible refine gate_store (t:=4) (p:=32) rfl ?_);refine store_event (t:=4) (p:=32) (v:=?vo_w40) (w1:=(w37.setCell ⟨go28,(Ja:Int).toNat * 6 + 2,none⟩ (.bool false))) ?hg ?ho ?hn ?hr ?_;(case ho=>rfl);(case hg=>rfl);(case hn=>rfl);(case hr=>first|(go_simp;done)|(go_simp;rfl));intro w40 hw;have hg:w37.grownBy w40 (some go28):=(by rw [hw];exact HP39.2);have hp_:Kd.R k83 83 w40 w.heap.size (fun _=>True) (Y (some ⟨go28,0,none⟩) Ka.length Kc) y238:=(by rw [hw,Ny238.out];exact HP39.1);clear HP39;have n_:=an_ (blk_grown (pk_ Ma.out) hg (Kd.R_ne Jb.out Ma.out (by decide)))<|an_ (blk_grown (pk_ Oa.out) hg (Kd.R_ne Jb.out Oa.out (by decide)))<|an_ (hp_)<|an_ (blk_grown (pk_ Ua.out) hg (Kd.R_ne Jb.out Ua.out (by decide)))<|D (by rw [hw];exact below_set (HB.out) GB28.out:Below w.heap.size w w40);clear Ma Oa Jb Ua HB;obtain ⟨Ma,Oa,Jb,Ua,HB⟩:=n_;clear hg hw hp_;have Ks:=cells5 Ua.out;have Xu:=cells5 Oa.out))
       refine bodyPost_ret (results_ct rfl _ _ Mb 59 #[I L Kb,I L Ob,I L Ub,I L Jc,Y (some ⟨go28,0,none⟩) Ka.length Kc] (0,0) _ rfl (by exact pP_ Oa.out) Try.underlying59 rfl (by kernel_rfl)) rfl ?_;exact ⟨_,er_,by (with_reducible repeat (first|apply Kd.R_alloc|apply Kd.R_drewN|apply Kd.R_drew));exact Kd.R_mono (fr_ (fr_ (fr_ (fr_ (fr_ (Kd.R_types Jb.out Oa.out (by decide)) 0 (I L Kb)) 1 (I L Ob)) 2 (I L Ub)) 3 (I L Jc)) 4 (Y (some ⟨go28,0,none⟩) Ka.length Kc)) (fun _ hk=>trivial),pB_ HB.out⟩
      ·rw [if_neg c27] at H
       exact absurd H (by simp)
     ·replace c25 := Bool.eq_false_iff.mpr c25
      subst c25;(try simp only [Bool.not_true,Bool.not_false]);rw [if_neg (show ¬ (false=true) by decide)] at H;simp only [Option.some.injEq,Prod.mk.injEq] at H;obtain ⟨rfl,rfl,rfl,rfl,rfl,rfl⟩:=H;(try have:=Oc.out);(try have:=Mc.out);have Ox:=cells5 Oa.out
      go_wp2
      refine bodyPost_ret (results_ct rfl _ _ Mb 59 #[I L 0,I L 0,I L 0,I L 0,Y none 0 0] (0,0) _ rfl Z8 Try.underlying59 rfl (by kernel_rfl)) rfl ?_;exact ⟨_,er_,by first|exact Kd.R_nil _ _ _ _ _|exact Kd.N_nil _ _ _ _ _|exact Kd.V_nil _ _ _ _ _|exact Kd.Q_nil _ _ _ _ _|exact Kd.S_nil _ _ _ _ _,pB_ HB.out⟩
    ·rw [if_neg c20] at H
     exact absurd H (by simp)
   ·rw [if_neg c19] at H
    exact absurd H (by simp)
 ·replace c10 := Bool.eq_false_iff.mpr c10
  subst c10;rw [if_neg (show ¬ (false=true) by decide)] at H;simp only [Option.some.injEq,Prod.mk.injEq] at H;obtain ⟨rfl,rfl,rfl,rfl,rfl,rfl⟩:=H;(try have:=Oc.out);(try have:=Mc.out);have Kz:=cells5 Oa.out
  go_wp2
  refine bodyPost_ret (results_ct rfl _ _ Mb 59 #[I L 0,I L 0,I L 0,I L 0,Y none 0 0] (0,0) _ rfl Z8 Try.underlying59 rfl (by kernel_rfl)) rfl ?_;exact ⟨_,er_,by first|exact Kd.R_nil _ _ _ _ _|exact Kd.N_nil _ _ _ _ _|exact Kd.V_nil _ _ _ _ _|exact Kd.Q_nil _ _ _ _ _|exact Kd.S_nil _ _ _ _ _,pB_ HB.out⟩

/-! ### spec_ChargeOk: function 19 -/
def spec_ChargeOk.f (a0_0 a0_1 a0_2 : Int) : Option (Bool) := (spec_l13All.f a0_0 a0_1 a0_2 1 2000).bind fun Je => (some Je)
set_option maxHeartbeats 8000000 in
set_option maxRecDepth 100000 in
theorem spec_ChargeOk.calls (a0_0 a0_1 a0_2 : Int) (r : Bool) (w : World) (h : spec_ChargeOk.f a0_0 a0_1 a0_2 = some r) :
  Calls Try.prog 19 #[.agg #[I L a0_0, I L a0_1, I L a0_2]] w fun e w' => e = .returned (.bool r) ∧ Below w.heap.size w w' := by
 have hu29 := Try.underlying29
 have HB := D (Below.refl w.heap.size w)
 have H : ((spec_l13All.f a0_0 a0_1 a0_2 1 2000).bind fun t240 => (some t240)) = some r := h
 clear h
 obtain ⟨t240, A20, H⟩ := bs_.mp H
 (try dsimp only at H)
 have A2 := D A20
 clear A20
 obtain rfl := Option.some.inj H
 go_enter Try.func19, Try.ntmps19
 go_wp2_with (first|((with_reducible refine gate_dst (N:=1) rfl ?_);refine bx_ (N:=1) (cs:=#[I L a0_0,I L a0_1,I L a0_2]) (t:=29) ?_;intro gb239 hg w3 hbox hb;have n_:=an_ (below_step (pB_ HB.out) hb)<|an_ (hbox)<|an_ (bg_ hg (pB_ HB.out):w.heap.size≤gb239)<|D (bg_ hg (pB_ HB.out):w.heap.size≤gb239);clear HB;obtain ⟨HB,BK239,GW239,GE239⟩:=n_;clear hb hbox hg;have hcz4_0:=cells3 BK239.out)|((with_reducible refine gate_callee (f:=40) rfl ?_);refine goesL_ (some 4) rfl rfl Try.func40 (by kernel_rfl) rfl #[.agg #[I L a0_0,I L a0_1,I L a0_2],I L 1,I L 2000] rfl Z20 ?_;(with_reducible refine (spec_l13All.calls a0_0 a0_1 a0_2 1 2000 t240 _ A2.out).mono ?_);rintro e w5 ⟨rfl,hb⟩;refine ⟨_,rfl,?_⟩;have n_:=an_ (blk_below (pk_ BK239.out) hb)<|D (below_step (pB_ HB.out) hb);clear BK239 HB;obtain ⟨BK239,HB⟩:=n_;(try clear hb)))
 go_ret
 exact ⟨er_, pB_ HB.out⟩

/-! ### spec_FairPick: function 56 -/
def spec_FairPick.l0 : Nat → Int → Int → Int → Int → Int → Int → List (S83) → Option (Int)
 | 0, _, _, _, _, _, _, _ => none
 | k + 1,x3,x4,x242000,x242001,x242002,x242003,x242004=>if x4 < (x242004.length:Int) then (if 0≤x4 then (if (rd_T83 x242004 x4).f2=true then (if x3 < 0 then (spec_FairPick.l0 k x4 (wrap64 (x4 + 1)) x242000 x242001 x242002 x242003 x242004) else ((spec_VecTop.f ((rd_T83 x242004 x4).f3.f0) ((rd_T83 x242004 x4).f3.f1) ((rd_T83 x242004 x4).f3.f2)).bind fun t246=>(if 0≤x3 then (if x3 < (x242004.length:Int) then ((spec_VecTop.f ((rd_T83 x242004 x3).f3.f0) ((rd_T83 x242004 x3).f3.f1) ((rd_T83 x242004 x3).f3.f2)).bind fun t248=>(if t246 < t248 then (spec_FairPick.l0 k x4 (wrap64 (x4 + 1)) x242000 x242001 x242002 x242003 x242004) else (spec_FairPick.l0 k x3 (wrap64 (x4 + 1)) x242000 x242001 x242002 x242003 x242004))) else (none)) else (none)))) else (spec_FairPick.l0 k x3 (wrap64 (x4 + 1)) x242000 x242001 x242002 x242003 x242004)) else (none)) else (if x3 < 0 then (some (-1)) else (if 0≤x3 then (if x3 < (x242004.length:Int) then (some ((rd_T83 x242004 x3).f0)) else (none)) else (none)))
def spec_FairPick.f (k : Nat) (a0_0 a0_1 a0_2 a0_3 : Int) (l0_4 : List (S83)) : Option (Int) := (spec_FairOk.f k a0_0 a0_1 a0_2 a0_3 l0_4).bind fun t242 => (if t242 = true then (spec_FairPick.l0 k (-1) 0 a0_0 a0_1 a0_2 a0_3 l0_4) else (some (-1)))
def spec_FairPick.T7 : Bool × List (List Nat × List Nat) := (true, [([], []), ([0], [0]), ([], []), ([1, 2], [1, 2]), ([3], [3]), ([4], [4]), ([5], [5]), ([6], [6]), ([7, 6], [6, 7]), ([8, 6, 6], [6, 8]), ([9], [9]), ([10, 9], [9, 10]), ([9], [9]), ([11, 12, 9], [9, 11, 12]), ([13, 9], [9, 13]), ([14, 9], [9, 14]), ([15, 9, 9], [9, 15]), ([9], [9]), ([17, 9], [9, 17]), ([9], [9]), ([18, 19, 9], [9, 18, 19]), ([20, 9], [9, 20]), ([21, 9], [9, 21]), ([22, 16, 9], [9, 22]), ([16, 23, 9], [9, 16, 23]), ([9, 24, 6], [6, 9, 24]), ([6, 25], [6, 25])])
def spec_FairPick.B7 : List Nat := [0, 1, 0, 7, 15, 31, 63, 127, 255, 511, 1023, 2047, 1023, 8191, 16383, 32767, 65535, 1023, 132095, 1023, 918527, 1967103, 4064255, 8388607, 16777215, 33554431, 67108863]
theorem spec_FairPick.tab7 : rtab .any (opsOf Try.f56 7) = spec_FairPick.T7 := by kernel_rfl
theorem spec_FairPick.bits7 : waitsOk spec_FairPick.T7.2 spec_FairPick.B7 = true := by kernel_rfl
set_option maxHeartbeats 8000000 in
set_option maxRecDepth 100000 in
theorem spec_FairPick.calls (k : Nat) (a0_0 a0_1 a0_2 a0_3 : Int) (A0_4 : Option Addr) (c0_4 : Nat) (l0_4 : List (S83)) (r : Int) (w : World) (hr0_4 : Kd.C k83 w A0_4 l0_4.length l0_4) (hc0_4 : l0_4.length ≤ c0_4) (h : spec_FairPick.f k a0_0 a0_1 a0_2 a0_3 l0_4 = some r) :
  Calls Try.prog 56 #[.agg #[I L a0_0, I L a0_1, I L a0_2, I L a0_3, Y A0_4 l0_4.length c0_4]] w fun e w' => e = .returned (I L r) ∧ Below w.heap.size w w' := by
 have hu59 := Try.underlying59
 have hu29 := Try.underlying29
 have HR0_4 := D hr0_4
 have HC0_4 := D hc0_4
 clear hr0_4 hc0_4
 have HB := D (Below.refl w.heap.size w)
 have H : ((spec_FairOk.f k a0_0 a0_1 a0_2 a0_3 l0_4).bind fun Ua => (if Ua = true then (spec_FairPick.l0 k (-1) 0 a0_0 a0_1 a0_2 a0_3 l0_4) else (some (-1)))) = some r := h
 clear h
 obtain ⟨Ua, A20, H⟩ := bs_.mp H
 (try dsimp only at H)
 have A2 := D A20
 clear A20
 have HU3 := D H
 clear H
 go_enter Try.func56, Try.ntmps56
 go_upto_if 7 with (first|((with_reducible refine gate_dst (N:=1) rfl ?_);refine bx_ (N:=1) (cs:=#[I L a0_0,I L a0_1,I L a0_2,I L a0_3,Y A0_4 l0_4.length c0_4]) (t:=59) ?_;intro Ka hg w4 hbox hb;have n_:=an_ (below_step (pB_ HB.out) hb)<|an_ (hbox)<|an_ (bg_ hg (pB_ HB.out):w.heap.size≤Ka)<|D (bg_ hg (pB_ HB.out):w.heap.size≤Ka);clear HB;obtain ⟨HB,Ja,Oc,Uc⟩:=n_;clear hb hbox hg;have Xa:=cells5 Ja.out)|((with_reducible refine gate_callee (f:=48) rfl ?_);refine goesL_ (some 6) rfl rfl Try.func48 (by kernel_rfl) rfl #[.agg #[I L a0_0,I L a0_1,I L a0_2,I L a0_3,Y A0_4 l0_4.length c0_4]] rfl Z20 ?_;(with_reducible refine (spec_FairOk.calls k a0_0 a0_1 a0_2 a0_3 _ _ l0_4 Ua _ ?side1 ?side2 A2.out).mono ?_);(case side1=>exact pC_ (Kd.C_below HR0_4.out HB.out));(case side2=>exact HC0_4.out);rintro e w6 ⟨rfl,hb⟩;refine ⟨_,rfl,?_⟩;have n_:=an_ (blk_below (pk_ Ja.out) hb)<|D (below_step (pB_ HB.out) hb);clear Ja HB;obtain ⟨Ja,HB⟩:=n_;(try clear hb)))
 have H := HU3.out
 clear HU3
 by_cases c7 : Ua = true
 ·subst c7
  rw [if_pos rfl] at H; have H' := D H; clear H
  go_wp2
  go_loopg [3,4] k (fun kq v3 v4 w'=>∃ (x3_1:Int) (x4_1:Int),v3=I L x3_1∧v4=I L x4_1∧Aside0 (spec_FairPick.l0 kq x3_1 x4_1 a0_0 a0_1 a0_2 a0_3 l0_4=some r)∧Aside0 (kq≤k)∧Aside0 (w'.heap[Ka]?=some (.cells #[I L a0_0,I L a0_1,I L a0_2,I L a0_3,(Y A0_4 l0_4.length c0_4)] 59 (0,0)))∧Aside0 (Below w.heap.size w w'))
  case atStart => exact ⟨((-1)), (0), Z69, Z69, H', ⟨Nat.le_refl _⟩, ⟨pk_ Ja.out⟩, ⟨pB_ HB.out⟩⟩
  case round =>
   clear H'
   (try clear p2);(try clear c4);(try clear c5);(try clear c7);(try clear Xa)
   obtain ⟨x3_1, x4_1, rfl, rfl, HA, HK1, Ja, HB⟩ := hrel
   cases gk with
   | zero => exact absurd HA.out (by simp [spec_FairPick.l0])
   | succ k1 =>
    have H := HA.out; clear HA; simp only [spec_FairPick.l0] at H
    by_cases c8 : x4_1 < (l0_4.length : Int)
    ·rw [if_pos c8] at H
     have c8b0:decide (x4_1 < (l0_4.length:Int))=true:=decide_eq_true c8;clear c8;refine rw_ c8b0 ?_
     by_cases c9 : 0 ≤ x4_1
     ·rw [if_pos c9] at H
      have c9b0 : decide (0 ≤ x4_1) = true := decide_eq_true c9; clear c9; obtain ⟨bq10, hbq10⟩ : ∃ b_ : Bool, b_ = ((rd_T83 l0_4 x4_1).f2) := ⟨_, rfl⟩
      replace H:(if bq10=true then (if x3_1 < 0 then (spec_FairPick.l0 k1 x4_1 (wrap64 (x4_1 + 1)) a0_0 a0_1 a0_2 a0_3 l0_4) else ((spec_VecTop.f ((rd_T83 l0_4 x4_1).f3.f0) ((rd_T83 l0_4 x4_1).f3.f1) ((rd_T83 l0_4 x4_1).f3.f2)).bind fun Ma=>(if 0≤x3_1 then (if x3_1 < (l0_4.length:Int) then ((spec_VecTop.f ((rd_T83 l0_4 x3_1).f3.f0) ((rd_T83 l0_4 x3_1).f3.f1) ((rd_T83 l0_4 x3_1).f3.f2)).bind fun Oa=>(if Ma < Oa then (spec_FairPick.l0 k1 x4_1 (wrap64 (x4_1 + 1)) a0_0 a0_1 a0_2 a0_3 l0_4) else (spec_FairPick.l0 k1 x3_1 (wrap64 (x4_1 + 1)) a0_0 a0_1 a0_2 a0_3 l0_4))) else (none)) else (none)))) else (spec_FairPick.l0 k1 x3_1 (wrap64 (x4_1 + 1)) a0_0 a0_1 a0_2 a0_3 l0_4))=some r:=by rw [← hbq10] at H;exact H
      have Nbq10 := D hbq10; clear hbq10
      by_cases c11 : bq10 = true
      ·subst c11
       rw [if_pos rfl] at H
       by_cases c12 : x3_1 < 0
       ·rw [if_pos c12] at H
        have c12b0 : decide (x3_1 < 0) = true := decide_eq_true c12; clear c12; have H' := D H; clear H; obtain ⟨Xc, Jd, Md, Od, Ud, Xd, Je, Ke, Me, Oe⟩ := cells5 Ja.out
        try go_wp2
        have n_ := an_ (blk_drew Ja.out) <| D (below_drew1 HB.out)
        clear Ja HB;obtain ⟨Ja,HB⟩:=n_;have p244:0≤(x4_1:Int):=od_ Z68;have q244:x4_1 < (l0_4.length:Int):=od_ Z68;obtain ⟨ad244,e244,hx244_0,hx244_1,hx244_2,hx244_3,hx244_4,hx244_5⟩:=at_T83 HR0_4.out x4_1 p244 q244;have hw244_5:=hx244_5;have hw244_4:=hx244_4;have hw244_3:=hx244_3;have hw244_2:=hx244_2;have hw244_1:=hx244_1;have hw244_0:=hx244_0;(try rw [← Nbq10.out] at hx244_2);(try rw [← Nbq10.out] at hw244_2);cases e244;replace hx244_0:=rc_ HB.out hx244_0;replace hx244_1:=rc_ HB.out hx244_1;replace hx244_2:=rc_ HB.out hx244_2;replace hx244_3:=rc_ HB.out hx244_3;replace hx244_4:=rc_ HB.out hx244_4;replace hx244_5:=rc_ HB.out hx244_5;replace p244:=eq_true p244;replace q244:=eq_true q244;refine start_ (n:=27) (S:=fun w'=>w'.cell? ⟨Ka,0,none⟩=some (I L a0_0)∧w'.cell? ⟨Ka,1,none⟩=some (I L a0_1)∧w'.cell? ⟨Ka,2,none⟩=some (I L a0_2)∧w'.cell? ⟨Ka,3,none⟩=some (I L a0_3)∧w'.cell? ⟨Ka,4,none⟩=some (Y (some ad244) l0_4.length c0_4)∧w'.cell? (ad244.add ((x4_1).toNat * 6))=some (I L ((rd_T83 l0_4 x4_1).f0))∧w'.cell? ⟨(ad244.add ((x4_1).toNat * 6)).block,(ad244.add ((x4_1).toNat * 6)).off + 1,none⟩=some (I L ((rd_T83 l0_4 x4_1).f1))∧w'.cell? ⟨(ad244.add ((x4_1).toNat * 6)).block,(ad244.add ((x4_1).toNat * 6)).off + 2,none⟩=some (.bool true)∧w'.cell? ⟨(ad244.add ((x4_1).toNat * 6)).block,(ad244.add ((x4_1).toNat * 6)).off + 3,none⟩=some (I L ((rd_T83 l0_4 x4_1).f3.f0))∧w'.cell? ⟨(ad244.add ((x4_1).toNat * 6)).block,(ad244.add ((x4_1).toNat * 6)).off + 4,none⟩=some (I L ((rd_T83 l0_4 x4_1).f3.f1))∧w'.cell? ⟨(ad244.add ((x4_1).toNat * 6)).block,(ad244.add ((x4_1).toNat * 6)).off + 5,none⟩=some (I L ((rd_T83 l0_4 x4_1).f3.f2))) (ds:=[]) (bz 27 0) (by kernel_rfl) rfl (by kernel_rfl) (bk5_ Ja.out (re6_ HB.out hw244_0 hw244_1 hw244_2 hw244_3 hw244_4 hw244_5)) (fun hHeld=>?_);refine with_tabW spec_FairPick.tab7 spec_FairPick.bits7 (fun HT_ HW_=>?_);generalize wr.drew=w14 at Ja HB hx244_0 hx244_1 hx244_2 hx244_3 hx244_4 hx244_5 hHeld ⊢;refine pb_ 0 ?_;refine pb_ 2 ?_;refine tb_ 1 rfl rfl hHeld Z62 ?_;refine pb_ 3 ?_;refine pb_ 4 ?_;refine tb_ 5 rfl rfl hHeld Z62 ?_;refine pb_ 6 ?_;refine pb_ 7 ?_;refine pb_ 8 ?_;refine pb_ 9 ?_;refine ob_ 10 ?_;refine ob_ 11 ?_
        refine ob_ 12 ?_;refine ob_ 13 ?_;refine ob_ 14 ?_;refine ob_ 15 ?_;refine ob_ 16 ?_;refine ob_ 17 ?_;refine ob_ 18 ?_;refine ob_ 19 ?_;refine ob_ 20 ?_;refine ob_ 21 ?_;refine ob_ 22 ?_;refine ob_ 23 ?_;refine ob_ 24 ?_;refine pb_ 25 ?_;refine pb_ 26 ?_;refine done_ (done_of HT_.out (by kernel_rfl)) ?_
        try go_wp2
        go_roundg k1
        case measure => have := HK1.out; omega
        case rel => exact ⟨(x4_1), (wrap64 (x4_1 + 1)), Z69, Z69, H', ⟨by have := HK1.out; omega⟩, ⟨pk_ Ja.out⟩, ⟨pB_ HB.out⟩⟩
       ·rw [if_neg c12] at H
        have c12b0 : decide (x3_1 < 0) = false := decide_eq_false c12; clear c12; obtain ⟨Ma, A150, H⟩ := bs_.mp H; (try dsimp only at H); have A15 := D A150; clear A150
        by_cases c16 : 0 ≤ x3_1
        ·rw [if_pos c16] at H
         have c16b0 : decide (0 ≤ x3_1) = true := decide_eq_true c16; clear c16
         by_cases c17 : x3_1 < (l0_4.length : Int)
         ·rw [if_pos c17] at H
          have c17b0:decide (x3_1 < (l0_4.length:Int))=true:=decide_eq_true c17;clear c17;obtain ⟨Oa,A180,H⟩:=bs_.mp H;(try dsimp only at H);have A18:=D A180;clear A180;have HU19:=D H;clear H;have Ue:=cells5 Ja.out
          try go_wp2
          have n_ := an_ (blk_drew Ja.out) <| D (below_drew1 HB.out)
          clear Ja HB;obtain ⟨Ja,HB⟩:=n_;have p244:0≤(x4_1:Int):=od_ Z68;have q244:x4_1 < (l0_4.length:Int):=od_ Z68;obtain ⟨ad244,e244,hx244_0,hx244_1,hx244_2,hx244_3,hx244_4,hx244_5⟩:=at_T83 HR0_4.out x4_1 p244 q244;have hw244_5:=hx244_5;have hw244_4:=hx244_4;have hw244_3:=hx244_3;have hw244_2:=hx244_2;have hw244_1:=hx244_1;have hw244_0:=hx244_0;(try rw [← Nbq10.out] at hx244_2);(try rw [← Nbq10.out] at hw244_2);cases e244;replace hx244_0:=rc_ HB.out hx244_0;replace hx244_1:=rc_ HB.out hx244_1;replace hx244_2:=rc_ HB.out hx244_2;replace hx244_3:=rc_ HB.out hx244_3;replace hx244_4:=rc_ HB.out hx244_4;replace hx244_5:=rc_ HB.out hx244_5;replace p244:=eq_true p244;replace q244:=eq_true q244;have p245:0≤(x4_1:Int):=od_ Z68;have q245:x4_1 < (l0_4.length:Int):=od_ Z68;obtain ⟨ad245,e245,hx245_0,hx245_1,hx245_2,hx245_3,hx245_4,hx245_5⟩:=at_T83 HR0_4.out x4_1 p245 q245;have hw245_5:=hx245_5;have hw245_4:=hx245_4;have hw245_3:=hx245_3;have hw245_2:=hx245_2;have hw245_1:=hx245_1;have hw245_0:=hx245_0;(try rw [← Nbq10.out] at hx245_2);(try rw [← Nbq10.out] at hw245_2);obtain rfl:ad244=ad245:=(by injection e245);replace hx245_0:=rc_ HB.out hx245_0;replace hx245_1:=rc_ HB.out hx245_1;replace hx245_2:=rc_ HB.out hx245_2;replace hx245_3:=rc_ HB.out hx245_3;replace hx245_4:=rc_ HB.out hx245_4;replace hx245_5:=rc_ HB.out hx245_5;replace p245:=eq_true p245;replace q245:=eq_true q245;have p247:0≤(x3_1:Int):=od_ Z68;have q247:x3_1 < (l0_4.length:Int):=od_ Z68;obtain ⟨ad247,e247,hx247_0,hx247_1,hx247_2,hx247_3,hx247_4,hx247_5⟩:=at_T83 HR0_4.out x3_1 p247 q247;have hw247_5:=hx247_5;have hw247_4:=hx247_4;have hw247_3:=hx247_3;have hw247_2:=hx247_2;have hw247_1:=hx247_1;have hw247_0:=hx247_0;(try rw [← Nbq10.out] at hx247_2);(try rw [← Nbq10.out] at hw247_2);obtain rfl:ad244=ad247:=(by injection e247);replace hx247_0:=rc_ HB.out hx247_0;replace hx247_1:=rc_ HB.out hx247_1;replace hx247_2:=rc_ HB.out hx247_2;replace hx247_3:=rc_ HB.out hx247_3;replace hx247_4:=rc_ HB.out hx247_4;replace hx247_5:=rc_ HB.out hx247_5;replace p247:=eq_true p247;replace q247:=eq_true q247;refine start_ (n:=27) (S:=fun w'=>w'.cell? ⟨Ka,0,none⟩=some (I L a0_0)∧w'.cell? ⟨Ka,1,none⟩=some (I L a0_1)∧w'.cell? ⟨Ka,2,none⟩=some (I L a0_2)∧w'.cell? ⟨Ka,3,none⟩=some (I L a0_3)∧w'.cell? ⟨Ka,4,none⟩=some (Y (some ad244) l0_4.length c0_4)∧w'.cell? (ad244.add ((x4_1).toNat * 6))=some (I L ((rd_T83 l0_4 x4_1).f0))∧w'.cell? ⟨(ad244.add ((x4_1).toNat * 6)).block,(ad244.add ((x4_1).toNat * 6)).off + 1,none⟩=some (I L ((rd_T83 l0_4 x4_1).f1))∧w'.cell? ⟨(ad244.add ((x4_1).toNat * 6)).block,(ad244.add ((x4_1).toNat * 6)).off + 2,none⟩=some (.bool true)∧w'.cell? ⟨(ad244.add ((x4_1).toNat * 6)).block,(ad244.add ((x4_1).toNat * 6)).off + 3,none⟩=some (I L ((rd_T83 l0_4 x4_1).f3.f0))∧w'.cell? ⟨(ad244.add ((x4_1).toNat * 6)).block,(ad244.add ((x4_1).toNat * 6)).off + 4,none⟩=some (I L ((rd_T83 l0_4 x4_1).f3.f1))∧w'.cell? ⟨(ad244.add ((x4_1).toNat * 6)).block,(ad244.add ((x4_1).toNat * 6)).off + 5,none⟩=some (I L ((rd_T83 l0_4 x4_1).f3.f2))∧w'.cell? (ad244.add ((x4_1).toNat * 6))=some (I L ((rd_T83 l0_4 x4_1).f0))∧w'.cell? ⟨(ad244.add ((x4_1).toNat * 6)).block,(ad244.add ((x4_1).toNat * 6)).off + 1,none⟩=some (I L ((rd_T83 l0_4 x4_1).f1))∧w'.cell? ⟨(ad244.add ((x4_1).toNat * 6)).block,(ad244.add ((x4_1).toNat * 6)).off + 2,none⟩=some (.bool (true))∧w'.cell? ⟨(ad244.add ((x4_1).toNat * 6)).block,(ad244.add ((x4_1).toNat * 6)).off + 3,none⟩=some (I L ((rd_T83 l0_4 x4_1).f3.f0))∧w'.cell? ⟨(ad244.add ((x4_1).toNat * 6)).block,(ad244.add ((x4_1).toNat * 6)).off + 4,none⟩=some (I L ((rd_T83 l0_4 x4_1).f3.f1))∧w'.cell? ⟨(ad244.add ((x4_1).toNat * 6)).block,(ad244.add ((x4_1).toNat * 6)).off + 5,none⟩=some (I L ((rd_T83 l0_4 x4_1).f3.f2))∧w'.cell? (ad244.add ((x3_1).toNat * 6))=some (I L ((rd_T83 l0_4 x3_1).f0))∧w'.cell? ⟨(ad244.add ((x3_1).toNat * 6)).block,(ad244.add ((x3_1).toNat * 6)).off + 1,none⟩=some (I L ((rd_T83 l0_4 x3_1).f1))∧w'.cell? ⟨(ad244.add ((x3_1).toNat * 6)).block,(ad244.add ((x3_1).toNat * 6)).off + 2,none⟩=some (.bool ((rd_T83 l0_4 x3_1).f2))∧w'.cell? ⟨(ad244.add ((x3_1).toNat * 6)).block,(ad244.add ((x3_1).toNat * 6)).off + 3,none⟩=some (I L ((rd_T83 l0_4 x3_1).f3.f0))∧w'.cell? ⟨(ad244.add ((x3_1).toNat * 6)).block,(ad244.add ((x3_1).toNat * 6)).off + 4,none⟩=some (I L ((rd_T83 l0_4 x3_1).f3.f1))∧w'.cell? ⟨(ad244.add ((x3_1).toNat * 6)).block,(ad244.add ((x3_1).toNat * 6)).off + 5,none⟩=some (I L ((rd_T83 l0_4 x3_1).f3.f2))) (ds:=[]) (bz 27 0) (by kernel_rfl) rfl (by kernel_rfl) (bk5_ Ja.out (rk6_ HB.out hw244_0 hw244_1 hw244_2 hw244_3 hw244_4 hw244_5 (rk6_ HB.out hw245_0 hw245_1 hw245_2 hw245_3 hw245_4 hw245_5 (re6_ HB.out hw247_0 hw247_1 hw247_2 hw247_3 hw247_4 hw247_5)))) (fun hHeld=>?_);refine with_tabW spec_FairPick.tab7 spec_FairPick.bits7 (fun HT_ HW_=>?_)
          generalize wr.drew=w21 at Ja HB hx244_0 hx244_1 hx244_2 hx244_3 hx244_4 hx244_5 hx245_0 hx245_1 hx245_2 hx245_3 hx245_4 hx245_5 hx247_0 hx247_1 hx247_2 hx247_3 hx247_4 hx247_5 hHeld ⊢;refine pb_ 0 ?_;refine pb_ 2 ?_;refine tb_ 1 rfl rfl hHeld Z19 ?_;refine pb_ 3 ?_;refine pb_ 4 ?_;refine tb_ 5 rfl rfl hHeld Z19 ?_;refine pb_ 6 ?_;refine pb_ 7 ?_;refine pb_ 8 ?_;refine pb_ 9 ?_;refine pb_ 10 ?_;refine pb_ 12 ?_;refine pb_ 17 ?_;refine pb_ 19 ?_;refine tb_ 11 rfl rfl hHeld Z19 ?_;refine pb_ 13 ?_;refine pb_ 14 ?_;refine tb_ 15 rfl rfl hHeld Z19 ?_;refine tb_ 18 rfl rfl hHeld Z19 ?_;refine pb_ 20 ?_;refine pb_ 21 ?_;refine tb_ 22 rfl rfl hHeld Z19 ?_;refine oa_ 16 31 27 8388607 HT_ (fun K hK=>?_);refine goes_ Try.func47 (by kernel_rfl) rfl #[.agg #[I L ((rd_T83 l0_4 x4_1).f3.f0),I L ((rd_T83 l0_4 x4_1).f3.f1),I L ((rd_T83 l0_4 x4_1).f3.f2)]] (by rfl) rfl rfl Z20 ?_;with_reducible refine (spec_VecTop.calls ((rd_T83 l0_4 x4_1).f3.f0) ((rd_T83 l0_4 x4_1).f3.f1) ((rd_T83 l0_4 x4_1).f3.f2) Ma _ A15.out).mono ?_
          rintro e w22 ⟨rfl, hb⟩; refine ⟨_, rfl, ?_⟩
          have n_ := an_ (blk_below (pk_ Ja.out) hb) <| D (below_step (pB_ HB.out) hb)
          clear Ja HB;obtain ⟨Ja,HB⟩:=n_;refine hK.out _ _ (bk5_ Ja.out (rk6_ HB.out hw244_0 hw244_1 hw244_2 hw244_3 hw244_4 hw244_5 (rk6_ HB.out hw245_0 hw245_1 hw245_2 hw245_3 hw245_4 hw245_5 (re6_ HB.out hw247_0 hw247_1 hw247_2 hw247_3 hw247_4 hw247_5)))) (fun hHeld=>?_);clear hK K;refine nx_ (N:=some 31) ?_;refine oa_ 23 38 27 16777215 HT_ (fun K hK=>?_);refine goes_ Try.func47 (by kernel_rfl) rfl #[.agg #[I L ((rd_T83 l0_4 x3_1).f3.f0),I L ((rd_T83 l0_4 x3_1).f3.f1),I L ((rd_T83 l0_4 x3_1).f3.f2)]] (by rfl) rfl rfl Z20 ?_;with_reducible refine (spec_VecTop.calls ((rd_T83 l0_4 x3_1).f3.f0) ((rd_T83 l0_4 x3_1).f3.f1) ((rd_T83 l0_4 x3_1).f3.f2) Oa _ A18.out).mono ?_
          rintro e w23 ⟨rfl, hb⟩; refine ⟨_, rfl, ?_⟩
          have n_ := an_ (blk_below (pk_ Ja.out) hb) <| D (below_step (pB_ HB.out) hb)
          clear Ja HB;obtain ⟨Ja,HB⟩:=n_;refine hK.out _ _ (bk5_ Ja.out (rk6_ HB.out hw244_0 hw244_1 hw244_2 hw244_3 hw244_4 hw244_5 (rk6_ HB.out hw245_0 hw245_1 hw245_2 hw245_3 hw245_4 hw245_5 (re6_ HB.out hw247_0 hw247_1 hw247_2 hw247_3 hw247_4 hw247_5)))) (fun hHeld=>?_);clear hK K;refine nx_ (N:=some 38) ?_;refine pb_ 24 ?_;refine pb_ 25 ?_;refine pb_ 26 ?_;refine done_ (done_of HT_.out (by kernel_rfl)) ?_
          go_upto_if 41 with (fail)
          have H := HU19.out; clear HU19
          by_cases c24 : Ma < Oa
          ·rw [if_pos c24] at H
           have c24b0:decide (Ma < Oa)=true:=decide_eq_true c24;clear c24;refine rw_ c24b0 ?_;have H':=D H;clear H
           go_wp2
           go_roundg k1
           case measure => have := HK1.out; omega
           case rel => exact ⟨(x4_1), (wrap64 (x4_1 + 1)), Z69, Z69, H', ⟨by have := HK1.out; omega⟩, ⟨pk_ Ja.out⟩, ⟨pB_ HB.out⟩⟩
          ·rw [if_neg c24] at H
           have c24b0:decide (Ma < Oa)=false:=decide_eq_false c24;clear c24;refine rw_ c24b0 ?_;have H':=D H;clear H
           go_wp2
           go_roundg k1
           case measure => have := HK1.out; omega
           case rel => exact ⟨(x3_1), (wrap64 (x4_1 + 1)), Z69, Z69, H', ⟨by have := HK1.out; omega⟩, ⟨pk_ Ja.out⟩, ⟨pB_ HB.out⟩⟩
         ·rw [if_neg c17] at H
          exact absurd H (by simp)
        ·rw [if_neg c16] at H
         exact absurd H (by simp)
      ·replace c11 := Bool.eq_false_iff.mpr c11
       subst c11; rw [if_neg (show ¬ (false = true) by decide)] at H; have H' := D H; clear H; obtain ⟨Mg, Og, Ug, Xg, Jh, Kh, Mh, Oh, Uh, Xh⟩ := cells5 Ja.out
       try go_wp2
       have n_ := an_ (blk_drew Ja.out) <| D (below_drew1 HB.out)
       clear Ja HB;obtain ⟨Ja,HB⟩:=n_;have p244:0≤(x4_1:Int):=od_ Z68;have q244:x4_1 < (l0_4.length:Int):=od_ Z68;obtain ⟨ad244,e244,hx244_0,hx244_1,hx244_2,hx244_3,hx244_4,hx244_5⟩:=at_T83 HR0_4.out x4_1 p244 q244;have hw244_5:=hx244_5;have hw244_4:=hx244_4;have hw244_3:=hx244_3;have hw244_2:=hx244_2;have hw244_1:=hx244_1;have hw244_0:=hx244_0;(try rw [← Nbq10.out] at hx244_2);(try rw [← Nbq10.out] at hw244_2);cases e244;replace hx244_0:=rc_ HB.out hx244_0;replace hx244_1:=rc_ HB.out hx244_1;replace hx244_2:=rc_ HB.out hx244_2;replace hx244_3:=rc_ HB.out hx244_3;replace hx244_4:=rc_ HB.out hx244_4;replace hx244_5:=rc_ HB.out hx244_5;replace p244:=eq_true p244;replace q244:=eq_true q244;refine start_ (n:=27) (S:=fun w'=>w'.cell? ⟨Ka,0,none⟩=some (I L a0_0)∧w'.cell? ⟨Ka,1,none⟩=some (I L a0_1)∧w'.cell? ⟨Ka,2,none⟩=some (I L a0_2)∧w'.cell? ⟨Ka,3,none⟩=some (I L a0_3)∧w'.cell? ⟨Ka,4,none⟩=some (Y (some ad244) l0_4.length c0_4)∧w'.cell? (ad244.add ((x4_1).toNat * 6))=some (I L ((rd_T83 l0_4 x4_1).f0))∧w'.cell? ⟨(ad244.add ((x4_1).toNat * 6)).block,(ad244.add ((x4_1).toNat * 6)).off + 1,none⟩=some (I L ((rd_T83 l0_4 x4_1).f1))∧w'.cell? ⟨(ad244.add ((x4_1).toNat * 6)).block,(ad244.add ((x4_1).toNat * 6)).off + 2,none⟩=some (.bool false)∧w'.cell? ⟨(ad244.add ((x4_1).toNat * 6)).block,(ad244.add ((x4_1).toNat * 6)).off + 3,none⟩=some (I L ((rd_T83 l0_4 x4_1).f3.f0))∧w'.cell? ⟨(ad244.add ((x4_1).toNat * 6)).block,(ad244.add ((x4_1).toNat * 6)).off + 4,none⟩=some (I L ((rd_T83 l0_4 x4_1).f3.f1))∧w'.cell? ⟨(ad244.add ((x4_1).toNat * 6)).block,(ad244.add ((x4_1).toNat * 6)).off + 5,none⟩=some (I L ((rd_T83 l0_4 x4_1).f3.f2))) (ds:=[]) (bz 27 0) (by kernel_rfl) rfl (by kernel_rfl) (bk5_ Ja.out (re6_ HB.out hw244_0 hw244_1 hw244_2 hw244_3 hw244_4 hw244_5)) (fun hHeld=>?_);refine with_tabW spec_FairPick.tab7 spec_FairPick.bits7 (fun HT_ HW_=>?_);generalize wr.drew=w26 at Ja HB hx244_0 hx244_1 hx244_2 hx244_3 hx244_4 hx244_5 hHeld ⊢;refine pb_ 0 ?_;refine pb_ 2 ?_;refine tb_ 1 rfl rfl hHeld Z62 ?_;refine pb_ 3 ?_;refine pb_ 4 ?_;refine tb_ 5 rfl rfl hHeld Z62 ?_;refine pb_ 6 ?_;refine ob_ 7 ?_;refine ob_ 8 ?_;refine ob_ 9 ?_;refine ob_ 10 ?_;refine ob_ 11 ?_
       refine ob_ 12 ?_;refine ob_ 13 ?_;refine ob_ 14 ?_;refine ob_ 15 ?_;refine ob_ 16 ?_;refine ob_ 17 ?_;refine ob_ 18 ?_;refine ob_ 19 ?_;refine ob_ 20 ?_;refine ob_ 21 ?_;refine ob_ 22 ?_;refine ob_ 23 ?_;refine ob_ 24 ?_;refine ob_ 25 ?_;refine pb_ 26 ?_;refine done_ (done_of HT_.out (by kernel_rfl)) ?_
       try go_wp2
       go_roundg k1
       case measure => have := HK1.out; omega
       case rel => exact ⟨(x3_1), (wrap64 (x4_1 + 1)), Z69, Z69, H', ⟨by have := HK1.out; omega⟩, ⟨pk_ Ja.out⟩, ⟨pB_ HB.out⟩⟩
     ·rw [if_neg c9] at H
      exact absurd H (by simp)
    ·rw [if_neg c8] at H
     have c8b0:decide (x4_1 < (l0_4.length:Int))=false:=decide_eq_false c8;clear c8;refine rw_ c8b0 ?_
     by_cases c27 : x3_1 < 0
     ·rw [if_pos c27] at H
      have c27b0 : decide (x3_1 < 0) = true := decide_eq_true c27; clear c27; obtain rfl := Option.some.inj H; obtain ⟨Ji, Ki, Mi, Oi, Ui, Xi, Jj, Kj, Mj, Oj⟩ := cells5 Ja.out
      go_wp2
      go_ret; exact ⟨er_, pB_ HB.out⟩
     ·rw [if_neg c27] at H
      have c27b0 : decide (x3_1 < 0) = false := decide_eq_false c27; clear c27
      by_cases c29 : 0 ≤ x3_1
      ·rw [if_pos c29] at H
       have c29b0 : decide (0 ≤ x3_1) = true := decide_eq_true c29; clear c29
       by_cases c30 : x3_1 < (l0_4.length : Int)
       ·rw [if_pos c30] at H
        have c30b0:decide (x3_1 < (l0_4.length:Int))=true:=decide_eq_true c30;clear c30;obtain rfl:=Option.some.inj H;have Uj:=cells5 Ja.out;have p243:0≤(x3_1:Int):=od_ Z68;have q243:x3_1 < (l0_4.length:Int):=od_ Z68;obtain ⟨ad243,e243,hx243_0,hx243_1,hx243_2,hx243_3,hx243_4,hx243_5⟩:=at_T83 HR0_4.out x3_1 p243 q243;cases e243;replace hx243_0:=rc_ HB.out hx243_0;replace hx243_1:=rc_ HB.out hx243_1;replace hx243_2:=rc_ HB.out hx243_2;replace hx243_3:=rc_ HB.out hx243_3;replace hx243_4:=rc_ HB.out hx243_4;replace hx243_5:=rc_ HB.out hx243_5;replace p243:=eq_true p243;replace q243:=eq_true q243
        go_wp2
        go_ret; exact ⟨er_, pB_ HB.out⟩
       ·rw [if_neg c30] at H
        exact absurd H (by simp)
      ·rw [if_neg c29] at H
       exact absurd H (by simp)
 ·replace c7 := Bool.eq_false_iff.mpr c7
  subst c7; rw [if_neg (show ¬ (false = true) by decide)] at H; obtain rfl := Option.some.inj H
  go_wp2
  go_ret; exact ⟨er_, pB_ HB.out⟩

/-! ### spec_l13List: function 46 -/
def spec_l13List.f (a0_0 a0_1 a0_2 : Int) : Option (List Int) := some (([a0_0, a0_1, a0_2] : List Int))
set_option maxHeartbeats 8000000 in
set_option maxRecDepth 100000 in
theorem spec_l13List.calls (a0_0 a0_1 a0_2 : Int) (r : List Int) (w : World) (h : spec_l13List.f a0_0 a0_1 a0_2 = some r) :
  Calls Try.prog 46 #[.agg #[I L a0_0,I L a0_1,I L a0_2]] w fun e w'=>∃ v0_:Value,e=.returned (v0_)∧Kd.R (Kd.int .i64) 3 w' w.heap.size (fun _=>True) v0_ r∧Below w.heap.size w w':=by
 have hu29 := Try.underlying29
 have HB := D (Below.refl w.heap.size w)
 have H : (some (([a0_0, a0_1, a0_2] : List Int))) = some r := h
 clear h
 obtain ⟨y250, hy250⟩ : ∃ y_ : List Int, y_ = (([a0_0, a0_1, a0_2] : List Int)) := ⟨_, rfl⟩
 replace H:(some y250)=some r:=by first|(rw [hy250];with_reducible exact H)|(have H2_:=(Option.bind_some _ _).symm.trans H;rw [hy250];with_reducible exact H2_)|(have H2_:=(Option.bind_some _ _).symm.trans H;with_reducible exact H2_)|with_reducible exact H|(rw [hy250];exact H)|exact H
 have Ny250 := D hy250
 clear hy250
 obtain rfl := Option.some.inj H
 go_enter Try.func46, Try.ntmps46
 go_wp2_with (first|((with_reducible refine gate_dst (N:=1) rfl ?_);refine bx_ (N:=1) (cs:=#[I L a0_0,I L a0_1,I L a0_2]) (t:=29) ?_;intro gb249 hg w2 hbox hb;have n_:=an_ (below_step (pB_ HB.out) hb)<|an_ (hbox)<|an_ (bg_ hg (pB_ HB.out):w.heap.size≤gb249)<|D (bg_ hg (pB_ HB.out):w.heap.size≤gb249);clear HB;obtain ⟨HB,BK249,GW249,GE249⟩:=n_;clear hb hbox hg;have hcz3_0:=cells3 BK249.out)|((with_reducible refine gate_dst (N:=9) rfl ?_);refine Kd.R_lit (Kd.int .i64) _ 3 ?hg (N:=9) ?hd (xs:=([a0_0,a0_1,a0_2]:List Int)) (inner:=[I L a0_0,I L a0_1,I L a0_2]) (ok:=fun _=>True) (okp:=fun _=>True) ?hr ?hp (fun _ hk=>hk) trivial (Below.refl _ _) (Nat.le_refl _) (by simp) ?_;(case hd=>rfl);(case hg=>rfl);(case hr=>first|(go_simp;done)|(go_simp;rfl));(case hp=>exact (Reps.one (show Kd.M (Kd.int .i64) _ _ _ a0_0 [I L a0_0] from rfl) (Reps.one (show Kd.M (Kd.int .i64) _ _ _ a0_1 [I L a0_1] from rfl) (Reps.one (show Kd.M (Kd.int .i64) _ _ _ a0_2 [I L a0_2] from rfl) (Reps.none _ _)))));intro v251 w4 ho5 hb hg_ hnew_;clear hg_ hnew_;(first|rw [← Ny250.out] at ho5|(simp only [Int.reduceToNat] at ho5;rw [← Ny250.out] at ho5));have n_:=an_ (Kd.R_lower ho5 (below_size (pB_ HB.out)))<|an_ (blk_below (pk_ BK249.out) hb)<|D (below_step (pB_ HB.out) hb);clear BK249 HB;obtain ⟨HO252,BK249,HB⟩:=n_;clear hb ho5))
 go_ret
 exact ⟨_,er_,by (with_reducible repeat (first|apply Kd.R_alloc|apply Kd.R_drewN|apply Kd.R_drew));exact HO252.out,pB_ HB.out⟩

/-! ### spec_l13Of: function 61 -/
def spec_l13Of.f (l0 : List Int) : Option (Int × Int × Int) := if 0 < (l0.length : Int) then (if 1 < (l0.length : Int) then (if 2 < (l0.length : Int) then (some (rd l0 0, rd l0 1, rd l0 2)) else (none)) else (none)) else (none)
def spec_l13Of.T1 : Bool × List (List Nat × List Nat) := (true, [([], []), ([0], [0]), ([1], [1]), ([], []), ([3], [3]), ([4], [4]), ([], []), ([6], [6]), ([7], [7]), ([2, 5, 8], [2, 5, 8]), ([9, 0, 1, 2, 3, 4, 5, 6, 7, 8, 9], [9])])
def spec_l13Of.B1 : List Nat := [0, 1, 3, 0, 8, 24, 0, 64, 192, 511, 1023]
theorem spec_l13Of.tab1 : rtab .any (opsOf Try.f61 1) = spec_l13Of.T1 := by kernel_rfl
theorem spec_l13Of.bits1 : waitsOk spec_l13Of.T1.2 spec_l13Of.B1 = true := by kernel_rfl
set_option maxHeartbeats 8000000 in
set_option maxRecDepth 100000 in
theorem spec_l13Of.calls (A0 : Option Addr) (c0 : Nat) (l0 : List Int) (r1 r2 r3 : Int) (w : World) (hr0 : Kd.C (Kd.int .i64) w A0 l0.length l0) (hc0 : l0.length ≤ c0) (h : spec_l13Of.f l0 = some (r1, r2, r3)) :
  Calls Try.prog 61 #[Y A0 l0.length c0] w fun e w' => e = .returned (.agg #[I L r1, I L r2, I L r3]) ∧ Below w.heap.size w w' := by
 have hu29 := Try.underlying29
 have HR0 := D hr0
 have HC0 := D hc0
 clear hr0 hc0
 have HB := D (Below.refl w.heap.size w)
 have H:(if 0 < (l0.length:Int) then (if 1 < (l0.length:Int) then (if 2 < (l0.length:Int) then (some (rd l0 0,rd l0 1,rd l0 2)) else (none)) else (none)) else (none))=some (r1,r2,r3):=h
 clear h
 by_cases c2 : 0 < (l0.length : Int)
 ·rw [if_pos c2] at H
  have c2b0 : decide (0 < (l0.length : Int)) = true := decide_eq_true c2; have c2b1 : decide (0 < l0.length) = true := decide_eq_true (by omega); clear c2
  by_cases c3 : 1 < (l0.length : Int)
  ·rw [if_pos c3] at H
   have c3b0 : decide (1 < (l0.length : Int)) = true := decide_eq_true c3; have c3b1 : decide (1 < l0.length) = true := decide_eq_true (by omega); clear c3
   by_cases c4 : 2 < (l0.length : Int)
   ·rw [if_pos c4] at H
    have c4b0:decide (2 < (l0.length:Int))=true:=decide_eq_true c4;have c4b1:decide (2 < l0.length)=true:=decide_eq_true (by omega);clear c4;simp only [Option.some.injEq,Prod.mk.injEq] at H;obtain ⟨rfl,rfl,rfl⟩:=H;go_enter Try.func61,Try.ntmps61
    try go_wp2_with (first|((with_reducible refine gate_dst (N:=2) rfl ?_);refine bx_ (N:=2) (cs:=#[I L 0,I L 0,I L 0]) (t:=29) ?_;intro gb253 hg w5 hbox hb;have n_:=an_ (below_step (pB_ HB.out) hb)<|an_ (hbox)<|an_ (bg_ hg (pB_ HB.out):w.heap.size≤gb253)<|D (bg_ hg (pB_ HB.out):w.heap.size≤gb253);clear HB;obtain ⟨HB,BK253,GW253,GE253⟩:=n_;clear hb hbox hg))
    have n_ := an_ (blk_drew BK253.out) <| D (below_drew1 HB.out)
    clear BK253 HB;obtain ⟨BK253,HB⟩:=n_;have p254:0≤(0:Int):=(by omega);have q254:0 < (l0.length:Int):=od_ Z68;obtain ⟨ad254,e254,hx254_0⟩:=Kd.at_int HR0.out 0 p254 q254;have hw254_0:=hx254_0;(try rw [show ((0:Int)).toNat=0 from rfl] at hw254_0);(try rw [show 0 * 1=0 from rfl] at hw254_0);(try rw [Addr.add_zero'] at hw254_0);cases e254;have qi254:(0 < l0.length)=True:=eq_true (by omega);(try rw [show ((0:Int)).toNat=0 from rfl] at hx254_0);(try rw [Addr.add_zero'] at hx254_0);replace hx254_0:=rc_ HB.out hx254_0;replace p254:=eq_true p254;replace q254:=eq_true q254;have p255:0≤(1:Int):=(by omega);have q255:1 < (l0.length:Int):=od_ Z68;obtain ⟨ad255,e255,hx255_0⟩:=Kd.at_int HR0.out 1 p255 q255;have hw255_0:=hx255_0;(try rw [show ((1:Int)).toNat=1 from rfl] at hw255_0);(try rw [show 1 * 1=1 from rfl] at hw255_0);(try simp only [Nat.reduceMul,Nat.reduceEqDiff,Go.Addr.add,↓reduceIte] at hw255_0);obtain rfl:ad254=ad255:=(by injection e255);(try simp only [show (1:Int).toNat=1 from rfl,Nat.reduceMul,Nat.reduceEqDiff,Go.Addr.add,↓reduceIte] at hx255_0);have qi255:(1 < l0.length)=True:=eq_true (by omega);(try rw [show ((1:Int)).toNat=1 from rfl] at hx255_0);replace hx255_0:=rc_ HB.out hx255_0;replace p255:=eq_true p255;replace q255:=eq_true q255;have p256:0≤(2:Int):=(by omega);have q256:2 < (l0.length:Int):=od_ Z68;obtain ⟨ad256,e256,hx256_0⟩:=Kd.at_int HR0.out 2 p256 q256;have hw256_0:=hx256_0;(try rw [show ((2:Int)).toNat=2 from rfl] at hw256_0);(try rw [show 2 * 1=2 from rfl] at hw256_0);(try simp only [Nat.reduceMul,Nat.reduceEqDiff,Go.Addr.add,↓reduceIte] at hw256_0);obtain rfl:ad254=ad256:=(by injection e256);(try simp only [show (2:Int).toNat=2 from rfl,Nat.reduceMul,Nat.reduceEqDiff,Go.Addr.add,↓reduceIte] at hx256_0);have qi256:(2 < l0.length)=True:=eq_true (by omega);(try rw [show ((2:Int)).toNat=2 from rfl] at hx256_0);replace hx256_0:=rc_ HB.out hx256_0;replace p256:=eq_true p256;replace q256:=eq_true q256;refine start_ (n:=11) (S:=fun w'=>w'.cell? ad254=some (I L (rd l0 0))∧w'.cell? ⟨ad254.block,ad254.off + 1,none⟩=some (I L (rd l0 1))∧w'.cell? ⟨ad254.block,ad254.off + 2,none⟩=some (I L (rd l0 2))) (ds:=[]) (bz 11 0) (by kernel_rfl) rfl (by kernel_rfl) (re3_ HB.out hw254_0 hw255_0 hw256_0) (fun hHeld=>?_);refine with_tabW spec_l13Of.tab1 spec_l13Of.bits1 (fun HT_ HW_=>?_);generalize w5.drew=w6 at BK253 HB hx254_0 hx255_0 hx256_0 hHeld ⊢;refine pb_ 0 ?_;refine pb_ 1 ?_;refine pb_ 3 ?_;refine pb_ 4 ?_;refine pb_ 6 ?_;refine pb_ 7 ?_;refine tb_ 2 rfl rfl hHeld Z67 ?_;refine tb_ 5 rfl rfl hHeld Z67 ?_;refine tb_ 8 rfl rfl hHeld Z67 ?_;refine pb_ 9 ?_;refine one_ (i:=10) (N:=none) (bz 11 2047) rfl rfl (one_of HT_.out (by kernel_rfl)) (by decide) (fun K hK=>?_)
    have hs7:w6.cell? ⟨gb253,0,none⟩=some (I L 0):=bc_ BK253.out 0;have hfs7:=blk_frozen BK253.out 0;have hs8:w6.cell? ⟨gb253,1,none⟩=some (I L 0):=bc_ BK253.out 1;have hfs8:=blk_frozen BK253.out 1;have hs9:w6.cell? ⟨gb253,2,none⟩=some (I L 0):=bc_ BK253.out 2;have hfs9:=blk_frozen BK253.out 2;refine skip_ (w1:=?_) (by rfl) rfl ?_ ?_;rotate_left
    ·go_simp
     rfl
    refine hK.out _ _ ⟨(cF_ (g:=gb253) Z73 (hHeld.1)),(cF_ (g:=gb253) Z74 (hHeld.2.1)),(cF_ (g:=gb253) Z75 (hHeld.2.2))⟩ (fun hHeld=>?_);clear hK K;refine done_ (done_of HT_.out (by kernel_rfl)) ?_
    try go_wp2
    refine bodyPost_ret (results_cell_row rfl _ _ gb253 29 #[I L (rd l0 0),I L (rd l0 1),I L (rd l0 2)] (0,0) _ rfl (by exact pP_ BK253.out) Try.underlying29 rfl (by kernel_rfl)) rfl ?_;exact ⟨er_,pB_ HB.out⟩
   ·rw [if_neg c4] at H
    exact absurd H (by simp)
  ·rw [if_neg c3] at H
   exact absurd H (by simp)
 ·rw [if_neg c2] at H
  exact absurd H (by simp)

end Go.Proofs.Ytpkdkhhknmlpjaa.PFnTakenAdds
