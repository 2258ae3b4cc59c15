-- by a program of this session's, over the kit's words
import Derived.Test.YtpkdkhhknmlpjaaPZFnTakenAdds
import Derived.Test.YtpkdkhhknmlpjaaPFnTakenAddsx0
import Derived.Test.YtpkdkhhknmlpjaaPFnTakenAddsx2
import Derived.Test.YtpkdkhhknmlpjaaPFnTakenAddsx3
import Derived.Test.YtpkdkhhknmlpjaaPFnTakenAddsx4
namespace Go.Proofs.Ytpkdkhhknmlpjaa.PFnTakenAdds
open Go.RowKit Go.Proofs.YtpkdkhhknmlpjaaW.PrintWords Go.Proofs.YtpkdkhhknmlpjaaW.PrintLast Go.Proofs.YtpkdkhhknmlpjaaW.PrintMore Go.Proofs.YtpkdkhhknmlpjaaV Go.Proofs.Ytpkdkhhknmlpjaa.ZFnTakenAdds
open Go.Value renaming int → I, slice → Y
open Go.IntKind renaming i64 → L
open Aside0 renaming mk → D
open Option renaming bind_eq_some_iff → bs_
attribute [local go_sem] max2_int min2_int max_two min_two max_three min_three max_four min_four   -- for this text's walks alone
set_option linter.unusedVariables false
set_option linter.unusedSimpArgs false

/-! ### spec_FairKid: function 55 -/
def spec_FairKid.f (k : Nat) (a0_0 a0_1 a0_2 a0_3 : Int) (l0_4 : List (S83)) (a1 : Int) : Option (Int × Int × Bool × Int × Int × Int) := (spec_FairOk.f k a0_0 a0_1 a0_2 a0_3 l0_4).bind fun t327 => (if t327 = true then ((spec_l18At.f k a0_0 a0_1 a0_2 a0_3 l0_4 a1).bind fun t328 => (if t328 < 0 then (some (0, 0, false, 0, 0, 0)) else ((spec_l18At.f k a0_0 a0_1 a0_2 a0_3 l0_4 a1).bind fun t329 => (if 0 ≤ t329 then (if t329 < (l0_4.length : Int) then (some ((rd_T83 l0_4 t329).f0, (rd_T83 l0_4 t329).f1, (rd_T83 l0_4 t329).f2, (rd_T83 l0_4 t329).f3.f0, (rd_T83 l0_4 t329).f3.f1, (rd_T83 l0_4 t329).f3.f2)) else (none)) else (none))))) else (some (0, 0, false, 0, 0, 0)))
def spec_FairKid.T3 : Bool × List (List Nat × List Nat) := (true, [([], []), ([0], [0]), ([], []), ([], []), ([2, 3], [2, 3]), ([1, 4], [1, 4]), ([5], [5]), ([6, 4, 0, 1, 2, 3, 4, 5, 6], [6])])
def spec_FairKid.B3 : List Nat := [0, 1, 0, 0, 12, 31, 63, 127]
theorem spec_FairKid.tab3 : rtab .any (opsOf Try.f55 3) = spec_FairKid.T3 := by kernel_rfl
theorem spec_FairKid.bits3 : waitsOk spec_FairKid.T3.2 spec_FairKid.B3 = true := by kernel_rfl
set_option maxHeartbeats 8000000 in
set_option maxRecDepth 100000 in
theorem spec_FairKid.calls (k : Nat) (a0_0 a0_1 a0_2 a0_3 : Int) (A0_4 : Option Addr) (c0_4 : Nat) (l0_4 : List (S83)) (a1 r1 r2 : Int) (r3 : Bool) (r4 r5 r6 : Int) (w : World) (hr0_4 : Kd.C k83 w A0_4 l0_4.length l0_4) (hc0_4 : l0_4.length ≤ c0_4) (h : spec_FairKid.f k a0_0 a0_1 a0_2 a0_3 l0_4 a1 = some (r1, r2, r3, r4, r5, r6)) :
  Calls Try.prog 55 #[.agg #[I L a0_0,I L a0_1,I L a0_2,I L a0_3,Y A0_4 l0_4.length c0_4],I L a1] w fun e w'=>e=.returned (.agg #[I L r1,I L r2,.bool r3,I L r4,I L r5,I L r6])∧Below w.heap.size w w':=by
 have hu59 := Try.underlying59
 have hu83 := Try.underlying83
 have HR0_4 := D hr0_4
 have HC0_4 := D hc0_4
 clear hr0_4 hc0_4
 have HB := D (Below.refl w.heap.size w)
 have H:((spec_FairOk.f k a0_0 a0_1 a0_2 a0_3 l0_4).bind fun Ob=>(if Ob=true then ((spec_l18At.f k a0_0 a0_1 a0_2 a0_3 l0_4 a1).bind fun Mb=>(if Mb < 0 then (some (0,0,false,0,0,0)) else ((spec_l18At.f k a0_0 a0_1 a0_2 a0_3 l0_4 a1).bind fun Oa=>(if 0≤Oa then (if Oa < (l0_4.length:Int) then (some ((rd_T83 l0_4 Oa).f0,(rd_T83 l0_4 Oa).f1,(rd_T83 l0_4 Oa).f2,(rd_T83 l0_4 Oa).f3.f0,(rd_T83 l0_4 Oa).f3.f1,(rd_T83 l0_4 Oa).f3.f2)) else (none)) else (none))))) else (some (0,0,false,0,0,0))))=some (r1,r2,r3,r4,r5,r6):=h
 clear h
 obtain ⟨Ob, A30, H⟩ := bs_.mp H
 (try dsimp only at H)
 have A3 := D A30
 clear A30
 by_cases c4 : Ob = true
 ·subst c4
  rw [if_pos rfl] at H;obtain ⟨Mb,A50,H⟩:=bs_.mp H;(try dsimp only at H);have A5:=D A50;clear A50;have HU6:=D H;clear H;go_enter Try.func55,Try.ntmps55
  go_upto_if 13 with (first|((with_reducible refine gate_dst (N:=2) rfl ?_);refine bx_ (N:=2) (cs:=#[I L a0_0,I L a0_1,I L a0_2,I L a0_3,Y A0_4 l0_4.length c0_4]) (t:=59) ?_;intro Jb hg w7 hbox hb;have n_:=an_ (below_step (pB_ HB.out) hb)<|an_ (hbox)<|an_ (bg_ hg (pB_ HB.out):w.heap.size≤Jb)<|D (bg_ hg (pB_ HB.out):w.heap.size≤Jb);clear HB;obtain ⟨HB,Ma,Ub,Xb⟩:=n_;clear hb hbox hg)|((with_reducible refine gate_dst (N:=4) rfl ?_);refine bx_ (N:=4) (cs:=#[I L 0,I L 0,.bool false,I L 0,I L 0,I L 0]) (t:=83) ?_;intro Ka hg w8 hbox hb;have n_:=an_ (blk_below (pk_ Ma.out) hb)<|an_ (below_step (pB_ HB.out) hb)<|an_ (hbox)<|an_ (bg_ hg (pB_ HB.out):w.heap.size≤Ka)<|an_ (bg_ hg (pB_ HB.out):w.heap.size≤Ka)<|an_ (nl_ hg (pk_ Ma.out):Jb≠Ka)<|D (by rw [hg];exact Nat.ne_of_gt (blk_lt (pk_ Ma.out)):Ka≠Jb);clear Ma HB;obtain ⟨Ma,HB,Ua,Ja,Jc,Xa,Kb⟩:=n_;clear hb hbox hg;(try have:=Xa.out);(try have:=Kb.out);have Kc:=cells5 Ma.out)|((with_reducible refine gate_callee (f:=48) rfl ?_);refine goesL_ (some 6) rfl rfl Try.func48 (by kernel_rfl) rfl #[.agg #[I L a0_0,I L a0_1,I L a0_2,I L a0_3,Y A0_4 l0_4.length c0_4]] rfl Z20 ?_;(with_reducible refine (spec_FairOk.calls k a0_0 a0_1 a0_2 a0_3 _ _ l0_4 true _ ?side1 ?side2 A3.out).mono ?_);(case side1=>exact pC_ (Kd.C_below HR0_4.out HB.out));(case side2=>exact HC0_4.out);rintro e w11 ⟨rfl,hb⟩;refine ⟨_,rfl,?_⟩;have n_:=an_ (blk_below (pk_ Ma.out) hb)<|an_ (blk_below (pk_ Ua.out) hb)<|D (below_step (pB_ HB.out) hb);clear Ma Ua HB;obtain ⟨Ma,Ua,HB⟩:=n_;(try clear hb);have Je:=cells5 Ma.out)|(go_at_call 68;(with_reducible refine (spec_l18At.calls k a0_0 a0_1 a0_2 a0_3 _ _ l0_4 a1 Mb _ ?side1 ?side2 A5.out).mono ?_);(case side1=>exact pC_ (Kd.C_below HR0_4.out HB.out));(case side2=>exact HC0_4.out);rintro e w13 ⟨rfl,hb⟩;have n_:=an_ (blk_below (pk_ Ma.out) hb)<|an_ (blk_below (pk_ Ua.out) hb)<|D (below_step (pB_ HB.out) hb);clear Ma Ua HB;obtain ⟨Ma,Ua,HB⟩:=n_;(try clear hb)))
  have H := HU6.out; clear HU6
  by_cases c14 : Mb < 0
  ·rw [if_pos c14] at H
   have c14b0:decide (Mb < 0)=true:=decide_eq_true c14;clear c14;refine rw_ c14b0 ?_;simp only [Option.some.injEq,Prod.mk.injEq] at H;obtain ⟨rfl,rfl,rfl,rfl,rfl,rfl⟩:=H;(try have:=Kb.out);(try have:=Xa.out);have Uf:=cells6 Ua.out
   go_wp2
   refine bodyPost_ret (results_cell_row rfl _ _ Ka 83 #[I L 0,I L 0,.bool false,I L 0,I L 0,I L 0] (0,0) _ rfl Z5 Try.underlying83 rfl (by kernel_rfl)) rfl ?_;exact ⟨er_,pB_ HB.out⟩
  ·rw [if_neg c14] at H
   have c14b0:decide (Mb < 0)=false:=decide_eq_false c14;clear c14;refine rw_ c14b0 ?_;obtain ⟨Oa,A170,H⟩:=bs_.mp H;(try dsimp only at H);have A17:=D A170;clear A170
   by_cases c18 : 0 ≤ Oa
   ·rw [if_pos c18] at H
    have c18b0 : decide (0 ≤ Oa) = true := decide_eq_true c18; clear c18
    by_cases c19 : Oa < (l0_4.length : Int)
    ·rw [if_pos c19] at H
     have c19b0 : decide (Oa < (l0_4.length : Int)) = true := decide_eq_true c19; clear c19; simp only [Option.some.injEq, Prod.mk.injEq] at H; obtain ⟨rfl, rfl, rfl, rfl, rfl, rfl⟩ := H
     try go_wp2
     have n_ := an_ (blk_drew Ma.out) <| an_ (blk_drew Ua.out) <| D (below_drew1 HB.out)
     clear Ma Ua HB;obtain ⟨Ma,Ua,HB⟩:=n_;have p330:0≤(Oa:Int):=od_ Z68;have q330:Oa < (l0_4.length:Int):=od_ Z68;obtain ⟨ad330,e330,hx330_0,hx330_1,hx330_2,hx330_3,hx330_4,hx330_5⟩:=at_T83 HR0_4.out Oa p330 q330;have hw330_5:=hx330_5;have hw330_4:=hx330_4;have hw330_3:=hx330_3;have hw330_2:=hx330_2;have hw330_1:=hx330_1;have hw330_0:=hx330_0;cases e330;replace hx330_0:=rc_ HB.out hx330_0;replace hx330_1:=rc_ HB.out hx330_1;replace hx330_2:=rc_ HB.out hx330_2;replace hx330_3:=rc_ HB.out hx330_3;replace hx330_4:=rc_ HB.out hx330_4;replace hx330_5:=rc_ HB.out hx330_5;replace p330:=eq_true p330;replace q330:=eq_true q330;refine start_ (n:=8) (S:=fun w'=>w'.cell? ⟨Jb,0,none⟩=some (I L a0_0)∧w'.cell? ⟨Jb,1,none⟩=some (I L a0_1)∧w'.cell? ⟨Jb,2,none⟩=some (I L a0_2)∧w'.cell? ⟨Jb,3,none⟩=some (I L a0_3)∧w'.cell? ⟨Jb,4,none⟩=some (Y (some ad330) l0_4.length c0_4)∧w'.cell? (ad330.add ((Oa).toNat * 6))=some (I L ((rd_T83 l0_4 Oa).f0))∧w'.cell? ⟨(ad330.add ((Oa).toNat * 6)).block,(ad330.add ((Oa).toNat * 6)).off + 1,none⟩=some (I L ((rd_T83 l0_4 Oa).f1))∧w'.cell? ⟨(ad330.add ((Oa).toNat * 6)).block,(ad330.add ((Oa).toNat * 6)).off + 2,none⟩=some (.bool ((rd_T83 l0_4 Oa).f2))∧w'.cell? ⟨(ad330.add ((Oa).toNat * 6)).block,(ad330.add ((Oa).toNat * 6)).off + 3,none⟩=some (I L ((rd_T83 l0_4 Oa).f3.f0))∧w'.cell? ⟨(ad330.add ((Oa).toNat * 6)).block,(ad330.add ((Oa).toNat * 6)).off + 4,none⟩=some (I L ((rd_T83 l0_4 Oa).f3.f1))∧w'.cell? ⟨(ad330.add ((Oa).toNat * 6)).block,(ad330.add ((Oa).toNat * 6)).off + 5,none⟩=some (I L ((rd_T83 l0_4 Oa).f3.f2))) (ds:=[]) (bz 8 0) (by kernel_rfl) rfl (by kernel_rfl) (bk5_ Ma.out (re6_ HB.out hw330_0 hw330_1 hw330_2 hw330_3 hw330_4 hw330_5)) (fun hHeld=>?_);refine with_tabW spec_FairKid.tab3 spec_FairKid.bits3 (fun HT_ HW_=>?_);generalize w13.drew=w20 at Ma Ua HB hx330_0 hx330_1 hx330_2 hx330_3 hx330_4 hx330_5 hHeld ⊢;refine pb_ 0 ?_;refine pb_ 3 ?_;refine tb_ 1 rfl rfl hHeld Z62 ?_;refine tb_ 2 rfl rfl hHeld Z62 ?_;refine oa_ 4 19 8 31 HT_ (fun K hK=>?_);refine goes_ Try.func68 (by kernel_rfl) rfl #[.agg #[I L a0_0,I L a0_1,I L a0_2,I L a0_3,Y (some ad330) l0_4.length c0_4],I L a1] (by rfl) rfl rfl Z20 ?_;with_reducible refine (spec_l18At.calls k a0_0 a0_1 a0_2 a0_3 _ _ l0_4 a1 Oa _ ?side1 ?side2 A17.out).mono ?_
     (case side1 => exact pC_ (Kd.C_below HR0_4.out HB.out)); (case side2 => exact HC0_4.out); rintro e w21 ⟨rfl, hb⟩; refine ⟨_, rfl, ?_⟩
     have n_ := an_ (blk_below (pk_ Ma.out) hb) <| an_ (blk_below (pk_ Ua.out) hb) <| D (below_step (pB_ HB.out) hb)
     clear Ma Ua HB;obtain ⟨Ma,Ua,HB⟩:=n_;refine hK.out _ _ (bk5_ Ma.out (re6_ HB.out hw330_0 hw330_1 hw330_2 hw330_3 hw330_4 hw330_5)) (fun hHeld=>?_);clear hK K;refine nx_ (N:=some 19) ?_;refine pb_ 5 ?_;refine tb_ 6 rfl rfl hHeld Z62 ?_;refine one_ (i:=7) (N:=none) (bz 8 255) rfl rfl (one_of HT_.out (by kernel_rfl)) (by decide) (fun K hK=>?_);have hs22:w21.cell? ⟨Ka,0,none⟩=some (I L 0):=bc_ Ua.out 0;have hfs22:=blk_frozen Ua.out 0;have hns22_0:=Xa.out;have hms22_0:=Kb.out;have hs23:w21.cell? ⟨Ka,1,none⟩=some (I L 0):=bc_ Ua.out 1;have hfs23:=blk_frozen Ua.out 1;have hns23_0:=Xa.out;have hms23_0:=Kb.out;have hs24:w21.cell? ⟨Ka,2,none⟩=some (.bool false):=bc_ Ua.out 2;have hfs24:=blk_frozen Ua.out 2;have hns24_0:=Xa.out;have hms24_0:=Kb.out;have hs25:w21.cell? ⟨Ka,3,none⟩=some (I L 0):=bc_ Ua.out 3;have hfs25:=blk_frozen Ua.out 3;have hns25_0:=Xa.out;have hms25_0:=Kb.out;have hs26:w21.cell? ⟨Ka,4,none⟩=some (I L 0):=bc_ Ua.out 4;have hfs26:=blk_frozen Ua.out 4;have hns26_0:=Xa.out;have hms26_0:=Kb.out;have hs27:w21.cell? ⟨Ka,5,none⟩=some (I L 0):=bc_ Ua.out 5;have hfs27:=blk_frozen Ua.out 5;have hns27_0:=Xa.out;have hms27_0:=Kb.out;refine skip_ (w1:=?_) (by rfl) rfl ?_ ?_;rotate_left
     ·go_simp
      rfl
     refine hK.out _ _ ⟨(cF_ Xa.out (hHeld.1)),(cF_ Xa.out (hHeld.2.1)),(cF_ Xa.out (hHeld.2.2.1)),(cF_ Xa.out (hHeld.2.2.2.1)),(cF_ Xa.out (hHeld.2.2.2.2.1)),(cF_ (g:=Ka) Z100 (hHeld.2.2.2.2.2.1)),(cF_ (g:=Ka) Z101 (hHeld.2.2.2.2.2.2.1)),(cF_ (g:=Ka) Z102 (hHeld.2.2.2.2.2.2.2.1)),(cF_ (g:=Ka) Z103 (hHeld.2.2.2.2.2.2.2.2.1)),(cF_ (g:=Ka) Z104 (hHeld.2.2.2.2.2.2.2.2.2.1)),(cF_ (g:=Ka) Z105 (hHeld.2.2.2.2.2.2.2.2.2.2))⟩ (fun hHeld=>?_);clear hK K;refine done_ (done_of HT_.out (by kernel_rfl)) ?_
     try go_wp2
     refine bodyPost_ret (results_cell_row rfl _ _ Ka 83 #[I L ((rd_T83 l0_4 Oa).f0),I L ((rd_T83 l0_4 Oa).f1),.bool ((rd_T83 l0_4 Oa).f2),I L ((rd_T83 l0_4 Oa).f3.f0),I L ((rd_T83 l0_4 Oa).f3.f1),I L ((rd_T83 l0_4 Oa).f3.f2)] (0,0) _ rfl (by exact pP_ Ua.out) Try.underlying83 rfl (by kernel_rfl)) rfl ?_;exact ⟨er_,pB_ HB.out⟩
    ·rw [if_neg c19] at H
     exact absurd H (by simp)
   ·rw [if_neg c18] at H
    exact absurd H (by simp)
 ·replace c4 := Bool.eq_false_iff.mpr c4
  subst c4; rw [if_neg (show ¬ (false = true) by decide)] at H; simp only [Option.some.injEq, Prod.mk.injEq] at H; obtain ⟨rfl, rfl, rfl, rfl, rfl, rfl⟩ := H; go_enter Try.func55, Try.ntmps55
  go_wp2_with (first|((with_reducible refine gate_dst (N:=2) rfl ?_);refine bx_ (N:=2) (cs:=#[I L a0_0,I L a0_1,I L a0_2,I L a0_3,Y A0_4 l0_4.length c0_4]) (t:=59) ?_;intro Jb hg w28 hbox hb;have n_:=an_ (below_step (pB_ HB.out) hb)<|an_ (hbox)<|an_ (bg_ hg (pB_ HB.out):w.heap.size≤Jb)<|D (bg_ hg (pB_ HB.out):w.heap.size≤Jb);clear HB;obtain ⟨HB,Ma,Ub,Xb⟩:=n_;clear hb hbox hg)|((with_reducible refine gate_dst (N:=4) rfl ?_);refine bx_ (N:=4) (cs:=#[I L 0,I L 0,.bool false,I L 0,I L 0,I L 0]) (t:=83) ?_;intro Ka hg w29 hbox hb;have n_:=an_ (blk_below (pk_ Ma.out) hb)<|an_ (below_step (pB_ HB.out) hb)<|an_ (hbox)<|an_ (bg_ hg (pB_ HB.out):w.heap.size≤Ka)<|an_ (bg_ hg (pB_ HB.out):w.heap.size≤Ka)<|an_ (nl_ hg (pk_ Ma.out):Jb≠Ka)<|D (by rw [hg];exact Nat.ne_of_gt (blk_lt (pk_ Ma.out)):Ka≠Jb);clear Ma HB;obtain ⟨Ma,HB,Ua,Ja,Jc,Xa,Kb⟩:=n_;clear hb hbox hg;(try have:=Xa.out);(try have:=Kb.out);have Uh:=cells5 Ma.out)|((with_reducible refine gate_callee (f:=48) rfl ?_);refine goesL_ (some 6) rfl rfl Try.func48 (by kernel_rfl) rfl #[.agg #[I L a0_0,I L a0_1,I L a0_2,I L a0_3,Y A0_4 l0_4.length c0_4]] rfl Z20 ?_;(with_reducible refine (spec_FairOk.calls k a0_0 a0_1 a0_2 a0_3 _ _ l0_4 false _ ?side1 ?side2 A3.out).mono ?_);(case side1=>exact pC_ (Kd.C_below HR0_4.out HB.out));(case side2=>exact HC0_4.out);rintro e w32 ⟨rfl,hb⟩;refine ⟨_,rfl,?_⟩;have n_:=an_ (blk_below (pk_ Ma.out) hb)<|an_ (blk_below (pk_ Ua.out) hb)<|D (below_step (pB_ HB.out) hb);clear Ma Ua HB;obtain ⟨Ma,Ua,HB⟩:=n_;(try clear hb);have Mj:=cells6 Ua.out))
  refine bodyPost_ret (results_cell_row rfl _ _ Ka 83 #[I L 0,I L 0,.bool false,I L 0,I L 0,I L 0] (0,0) _ rfl Z5 Try.underlying83 rfl (by kernel_rfl)) rfl ?_;exact ⟨er_,pB_ HB.out⟩

/-! ### spec_l19Busy: function 57 -/
def spec_l19Busy.l0 : Nat → List Int → Int → Int → Int → Int → Int → List (S83) → Option (List Int)
 | 0, _, _, _, _, _, _, _ => none
 | k + 1,x3,x4,x332000,x332001,x332002,x332003,x332004=>if x4 < (x332004.length:Int) then (if 0≤x4 then (if (rd_T83 x332004 x4).f2=true then (if x3.length < 17592186044416 then (spec_l19Busy.l0 k (x3 ++ [(rd_T83 x332004 x4).f0]) (wrap64 (x4 + 1)) x332000 x332001 x332002 x332003 x332004) else (none)) else (spec_l19Busy.l0 k x3 (wrap64 (x4 + 1)) x332000 x332001 x332002 x332003 x332004)) else (none)) else (some x3)
def spec_l19Busy.f (k : Nat) (a0_0 a0_1 a0_2 a0_3 : Int) (l0_4 : List (S83)) : Option (List Int) := spec_l19Busy.l0 k (([] : List Int)) 0 a0_0 a0_1 a0_2 a0_3 l0_4
set_option maxHeartbeats 8000000 in
set_option maxRecDepth 100000 in
theorem spec_l19Busy.calls (k : Nat) (a0_0 a0_1 a0_2 a0_3 : Int) (A0_4 : Option Addr) (c0_4 : Nat) (l0_4 : List (S83)) (r : List Int) (w : World) (hr0_4 : Kd.C k83 w A0_4 l0_4.length l0_4) (hc0_4 : l0_4.length ≤ c0_4) (h : spec_l19Busy.f k a0_0 a0_1 a0_2 a0_3 l0_4 = some r) :
  Calls Try.prog 57 #[.agg #[I L a0_0,I L a0_1,I L a0_2,I L a0_3,Y A0_4 l0_4.length c0_4]] w fun e w'=>∃ v0_:Value,e=.returned (v0_)∧Kd.R (Kd.int .i64) 3 w' w.heap.size (fun _=>True) v0_ r∧Below w.heap.size w w':=by
 have hu59 := Try.underlying59
 have HR0_4 := D hr0_4
 have HC0_4 := D hc0_4
 clear hr0_4 hc0_4
 have HB := D (Below.refl w.heap.size w)
 have H : (spec_l19Busy.l0 k (([] : List Int)) 0 a0_0 a0_1 a0_2 a0_3 l0_4) = some r := h
 clear h
 obtain ⟨y332, hy332⟩ : ∃ y_ : List Int, y_ = (([] : List Int)) := ⟨_, rfl⟩
 replace H:(spec_l19Busy.l0 k y332 0 a0_0 a0_1 a0_2 a0_3 l0_4)=some r:=by first|(rw [hy332];with_reducible exact H)|(have H2_:=(Option.bind_some _ _).symm.trans H;rw [hy332];with_reducible exact H2_)|(have H2_:=(Option.bind_some _ _).symm.trans H;with_reducible exact H2_)|with_reducible exact H|(rw [hy332];exact H)|exact H
 have Ny332 := D hy332
 clear hy332
 have H' := D H
 clear H
 go_enter Try.func57, Try.ntmps57
 go_wp2_with (first|((with_reducible refine gate_dst (N:=1) rfl ?_);refine bx_ (N:=1) (cs:=#[I L a0_0,I L a0_1,I L a0_2,I L a0_3,Y A0_4 l0_4.length c0_4]) (t:=59) ?_;intro gb331 hg w2 hbox hb;have n_:=an_ (below_step (pB_ HB.out) hb)<|an_ (hbox)<|an_ (bg_ hg (pB_ HB.out):w.heap.size≤gb331)<|D (bg_ hg (pB_ HB.out):w.heap.size≤gb331);clear HB;obtain ⟨HB,BK331,GW331,GE331⟩:=n_;clear hb hbox hg)|((with_reducible refine gate_dst (N:=5) rfl ?_);refine Kd.R_lit (Kd.int .i64) _ 3 ?hg (N:=5) ?hd (xs:=([]:List Int)) (inner:=[]) (ok:=fun _=>True) (okp:=fun _=>True) ?hr ?hp (fun _ hk=>hk) trivial (Below.refl _ _) (Nat.le_refl _) (by simp) ?_;(case hd=>rfl);(case hg=>rfl);(case hr=>first|(go_simp;done)|(go_simp;rfl));(case hp=>exact (Reps.none _ _));intro v333 w3 ho4 hb hg_ hnew_;clear hg_ hnew_;(first|rw [← Ny332.out] at ho4|(simp only [Int.reduceToNat] at ho4;rw [← Ny332.out] at ho4));have n_:=an_ (Kd.R_lower ho4 (below_size (pB_ HB.out)))<|an_ (blk_below (pk_ BK331.out) hb)<|D (below_step (pB_ HB.out) hb);clear BK331 HB;obtain ⟨HO334,BK331,HB⟩:=n_;clear hb ho4))
 go_loopg [3,4] k (fun kq v3 v4 w'=>∃ (x3_1:List Int) (x4_1:Int),v4=I L x4_1∧Aside0 (spec_l19Busy.l0 kq x3_1 x4_1 a0_0 a0_1 a0_2 a0_3 l0_4=some r)∧Aside0 (kq≤k)∧Aside0 (Kd.R (Kd.int .i64) 3 w' w.heap.size (fun _=>True) v3 x3_1)∧Aside0 (w'.heap[gb331]?=some (.cells #[I L a0_0,I L a0_1,I L a0_2,I L a0_3,(Y A0_4 l0_4.length c0_4)] 59 (0,0)))∧Aside0 (Below w.heap.size w w'))
 case atStart => exact ⟨(y332), (0), Z69, H', ⟨Nat.le_refl _⟩, ⟨pR_ HO334.out⟩, ⟨pk_ BK331.out⟩, ⟨pB_ HB.out⟩⟩
 case round =>
  clear H'
  try clear p2
  obtain ⟨x3_1, x4_1, rfl, HA, HK1, HO_3, BK331, HB⟩ := hrel
  cases gk with
  | zero => exact absurd HA.out (by simp [spec_l19Busy.l0])
  | succ k1 =>
   have H := HA.out; clear HA; simp only [spec_l19Busy.l0] at H
   by_cases c5 : x4_1 < (l0_4.length : Int)
   ·rw [if_pos c5] at H
    have c5b0 : decide (x4_1 < (l0_4.length : Int)) = true := decide_eq_true c5; clear c5
    by_cases c6 : 0 ≤ x4_1
    ·rw [if_pos c6] at H
     have c6b0:decide (0≤x4_1)=true:=decide_eq_true c6;clear c6;have HU7:=D H;clear H;have hcz8_0:=cells5 BK331.out;have p335:0≤(x4_1:Int):=od_ Z68;have q335:x4_1 < (l0_4.length:Int):=od_ Z68;obtain ⟨ad335,e335,hx335_0,hx335_1,hx335_2,hx335_3,hx335_4,hx335_5⟩:=at_T83 HR0_4.out x4_1 p335 q335;cases e335;replace hx335_0:=rc_ HB.out hx335_0;replace hx335_1:=rc_ HB.out hx335_1;replace hx335_2:=rc_ HB.out hx335_2;replace hx335_3:=rc_ HB.out hx335_3;replace hx335_4:=rc_ HB.out hx335_4;replace hx335_5:=rc_ HB.out hx335_5;replace p335:=eq_true p335;replace q335:=eq_true q335
     go_upto_if 18 with (fail)
     have H := HU7.out; clear HU7; obtain ⟨bq9, hbq9⟩ : ∃ b_ : Bool, b_ = ((rd_T83 l0_4 x4_1).f2) := ⟨_, rfl⟩
     replace H:(if bq9=true then (if x3_1.length < 17592186044416 then (spec_l19Busy.l0 k1 (x3_1 ++ [(rd_T83 l0_4 x4_1).f0]) (wrap64 (x4_1 + 1)) a0_0 a0_1 a0_2 a0_3 l0_4) else (none)) else (spec_l19Busy.l0 k1 x3_1 (wrap64 (x4_1 + 1)) a0_0 a0_1 a0_2 a0_3 l0_4))=some r:=by rw [← hbq9] at H;exact H
     have Nbq9 := D hbq9; clear hbq9; (try rw [← Nbq9.out])
     by_cases c10 : bq9 = true
     ·subst c10
      rw [if_pos rfl] at H
      by_cases c11 : x3_1.length < 17592186044416
      ·rw [if_pos c11] at H
       have LMc11 := D c11; clear c11; obtain ⟨y337, hy337⟩ : ∃ y_ : List Int, y_ = (x3_1 ++ [(rd_T83 l0_4 x4_1).f0]) := ⟨_, rfl⟩
       replace H:(spec_l19Busy.l0 k1 y337 (wrap64 (x4_1 + 1)) a0_0 a0_1 a0_2 a0_3 l0_4)=some r:=by first|(rw [hy337];with_reducible exact H)|(have H2_:=(Option.bind_some _ _).symm.trans H;rw [hy337];with_reducible exact H2_)|(have H2_:=(Option.bind_some _ _).symm.trans H;with_reducible exact H2_)|with_reducible exact H|(rw [hy337];exact H)|exact H
       have Ny337:=D hy337;clear hy337;have H':=D H;clear H;have hcz12_0:=cells5 BK331.out;have p336:0≤(x4_1:Int):=od_ Z68;have q336:x4_1 < (l0_4.length:Int):=od_ Z68;obtain ⟨ad336,e336,hx336_0,hx336_1,hx336_2,hx336_3,hx336_4,hx336_5⟩:=at_T83 HR0_4.out x4_1 p336 q336;(try rw [← Nbq9.out] at hx336_2);(try rw [← Nbq9.out] at hw336_2);obtain rfl:ad335=ad336:=(by injection e336);replace hx336_0:=rc_ HB.out hx336_0;replace hx336_1:=rc_ HB.out hx336_1;replace hx336_2:=rc_ HB.out hx336_2;replace hx336_3:=rc_ HB.out hx336_3;replace hx336_4:=rc_ HB.out hx336_4;replace hx336_5:=rc_ HB.out hx336_5;replace p336:=eq_true p336;replace q336:=eq_true q336
       go_wp2_with (first|((with_reducible refine gate_builtin (b:=.append) (xs:=#[.tmp 19,.tmp 26]) rfl ?_);at_builtin;refine Kd.R_append (Kd.int .i64) (w0:=w) w.heap.size rfl (.tmp 19) (.tmp 26) 33 3 (I L 0) 8 rfl Try.underlying33 info3 rfl (by decide) (by omega) u3 x3_1 ((rd_T83 l0_4 x4_1).f0) [I L ((rd_T83 l0_4 x4_1).f0)] (fun _=>True) (fun _=>False) rfl rfl ?aP (fun _ hk=>hk.elim) ?aF ?aO ?aB ?aS ?aL ?_;(case aP=>exact rfl);(case aB=>exact (pB_ HB.out));(case aF=>exact (fun _ _=>trivial));(case aO=>exact (pR_ HO_3.out));(case aS=>exact (below_size (pB_ HB.out)));(case aL=>have:=LMc11.out;omega);intro v338 w13 ho hb hg hat;rw [← Ny337.out] at ho;have n_:=an_ (blk_grown (pk_ BK331.out) hg (Kd.R_ne HO_3.out BK331.out (by decide)))<|an_ (hb)<|D (ho);clear BK331 HB HO_3;obtain ⟨BK331,HB,HO339⟩:=n_;clear ho hb hg hat))
       go_roundg k1
       case measure => have := HK1.out; omega
       case rel => exact ⟨(y337), (wrap64 (x4_1 + 1)), Z69, H', ⟨by have := HK1.out; omega⟩, ⟨pR_ HO339.out⟩, ⟨pk_ BK331.out⟩, ⟨pB_ HB.out⟩⟩
      ·rw [if_neg c11] at H
       exact absurd H (by simp)
     ·replace c10 := Bool.eq_false_iff.mpr c10
      subst c10; rw [if_neg (show ¬ (false = true) by decide)] at H; have H' := D H; clear H
      go_wp2
      go_roundg k1
      case measure => have := HK1.out; omega
      case rel => exact ⟨(x3_1), (wrap64 (x4_1 + 1)), Z69, H', ⟨by have := HK1.out; omega⟩, ⟨pR_ HO_3.out⟩, ⟨pk_ BK331.out⟩, ⟨pB_ HB.out⟩⟩
    ·rw [if_neg c6] at H
     exact absurd H (by simp)
   ·rw [if_neg c5] at H
    have c5b0:decide (x4_1 < (l0_4.length:Int))=false:=decide_eq_false c5;clear c5;obtain rfl:=Option.some.inj H;have hcz14_0:=cells5 BK331.out
    go_wp2
    go_ret;exact ⟨_,er_,by (with_reducible repeat (first|apply Kd.R_alloc|apply Kd.R_drewN|apply Kd.R_drew));exact HO_3.out,pB_ HB.out⟩

/-! ### spec_BaseOf: function 74 -/
def spec_BaseOf.f (a0_0 a0_1 a0_2 a1 : Int) : Option (Int) := (spec_TagOk.f a0_0 a0_1 a0_2).bind fun t341 => (if t341 = true then ((spec_l13Delta.f a1).bind fun t342 => (if t342 = true then ((spec_VecTop.f a0_0 a0_1 a0_2).bind fun t343 => (some (mx 0 (wrap64 (t343 - a1))))) else (some 0))) else (some 0))
set_option maxHeartbeats 8000000 in
set_option maxRecDepth 100000 in
theorem spec_BaseOf.calls (a0_0 a0_1 a0_2 a1 r : Int) (w : World) (h : spec_BaseOf.f a0_0 a0_1 a0_2 a1 = some r) :
  Calls Try.prog 74 #[.agg #[I L a0_0, I L a0_1, I L a0_2], I L a1] w fun e w' => e = .returned (I L r) ∧ Below w.heap.size w w' := by
 have hu29 := Try.underlying29
 have HB := D (Below.refl w.heap.size w)
 have H:((spec_TagOk.f a0_0 a0_1 a0_2).bind fun t341=>(if t341=true then ((spec_l13Delta.f a1).bind fun t342=>(if t342=true then ((spec_VecTop.f a0_0 a0_1 a0_2).bind fun t343=>(some (mx 0 (wrap64 (t343 - a1))))) else (some 0))) else (some 0)))=some r:=h
 clear h
 obtain ⟨t341, A30, H⟩ := bs_.mp H
 (try dsimp only at H)
 have A3 := D A30
 clear A30
 by_cases c4 : t341 = true
 ·subst c4
  rw [if_pos rfl] at H;obtain ⟨t342,A50,H⟩:=bs_.mp H;(try dsimp only at H);have A5:=D A50;clear A50;have HU6:=D H;clear H;go_enter Try.func74,Try.ntmps74
  go_upto_if 12 with (first|((with_reducible refine gate_dst (N:=2) rfl ?_);refine bx_ (N:=2) (cs:=#[I L a0_0,I L a0_1,I L a0_2]) (t:=29) ?_;intro gb340 hg w7 hbox hb;have n_:=an_ (below_step (pB_ HB.out) hb)<|an_ (hbox)<|an_ (bg_ hg (pB_ HB.out):w.heap.size≤gb340)<|D (bg_ hg (pB_ HB.out):w.heap.size≤gb340);clear HB;obtain ⟨HB,BK340,GW340,GE340⟩:=n_;clear hb hbox hg;have hcz8_0:=cells3 BK340.out)|((with_reducible refine gate_callee (f:=80) rfl ?_);refine goesL_ (some 6) rfl rfl Try.func80 (by kernel_rfl) rfl #[.agg #[I L a0_0,I L a0_1,I L a0_2]] rfl Z20 ?_;(with_reducible refine (spec_TagOk.calls a0_0 a0_1 a0_2 true _ A3.out).mono ?_);rintro e w9 ⟨rfl,hb⟩;refine ⟨_,rfl,?_⟩;have n_:=an_ (blk_below (pk_ BK340.out) hb)<|D (below_step (pB_ HB.out) hb);clear BK340 HB;obtain ⟨BK340,HB⟩:=n_;(try clear hb))|(go_at_call 59;(with_reducible refine (spec_l13Delta.calls a1 t342 _ A5.out).mono ?_);rintro e w' ⟨rfl,⟨nd,rfl⟩⟩))
  have H := HU6.out; clear HU6
  by_cases c10 : t342 = true
  ·subst c10
   rw [if_pos rfl] at H;obtain ⟨t343,A110,H⟩:=bs_.mp H;(try dsimp only at H);have A11:=D A110;clear A110;obtain ⟨ji12,hji12⟩:∃ j_:Int,(mx 0 (wrap64 (t343 - a1)))=j_:=⟨_,rfl⟩
   replace H : (some ji12) = some r := by first | (rw [hji12] at H; exact H) | (simp only [hji12] at H ⊢; exact H)
   (try rw [hji12] at A11);(try (have hji12l:0≤ji12:=by (rw [← hji12];unfold mx;(repeat' split) <;> omega)));(try (have hji12m:0≤ji12:=by omega));have hji12_:(if 0 < (wrap64 (t343 - a1)) then (wrap64 (t343 - a1)) else 0)=ji12:=hji12;obtain rfl:=Option.some.inj H;have hcz13_0:=cells3 BK340.out
   go_wp2_with (first|((with_reducible refine gate_callee (f:=47) rfl ?_);refine goesL_ (some 14) rfl rfl Try.func47 (by kernel_rfl) rfl #[.agg #[I L a0_0,I L a0_1,I L a0_2]] rfl Z20 ?_;(with_reducible refine (spec_VecTop.calls a0_0 a0_1 a0_2 t343 _ A11.out).mono ?_);rintro e w14 ⟨rfl,hb⟩;refine ⟨_,rfl,?_⟩;have n_:=an_ (blk_below (pk_ BK340.out) hb)<|D (below_step (pB_ HB.out) hb);clear BK340 HB;obtain ⟨BK340,HB⟩:=n_;(try clear hb)))
   go_ret;exact ⟨by first|rfl|(simp [errW_none,errW_some] <;> rfl)|(simp only [← hji12];first|rfl|(simp [errW_none,errW_some] <;> rfl))|(simp [*,errW_none,errW_some] <;> rfl),pB_ HB.out⟩
  ·replace c10 := Bool.eq_false_iff.mpr c10
   subst c10; rw [if_neg (show ¬ (false = true) by decide)] at H; obtain rfl := Option.some.inj H
   go_wp2
   go_ret; exact ⟨er_, pB_ HB.out⟩
 ·replace c4 := Bool.eq_false_iff.mpr c4
  subst c4; rw [if_neg (show ¬ (false = true) by decide)] at H; obtain rfl := Option.some.inj H; go_enter Try.func74, Try.ntmps74
  go_wp2_with (first|((with_reducible refine gate_dst (N:=2) rfl ?_);refine bx_ (N:=2) (cs:=#[I L a0_0,I L a0_1,I L a0_2]) (t:=29) ?_;intro gb340 hg w15 hbox hb;have n_:=an_ (below_step (pB_ HB.out) hb)<|an_ (hbox)<|an_ (bg_ hg (pB_ HB.out):w.heap.size≤gb340)<|D (bg_ hg (pB_ HB.out):w.heap.size≤gb340);clear HB;obtain ⟨HB,BK340,GW340,GE340⟩:=n_;clear hb hbox hg;have hcz16_0:=cells3 BK340.out)|((with_reducible refine gate_callee (f:=80) rfl ?_);refine goesL_ (some 6) rfl rfl Try.func80 (by kernel_rfl) rfl #[.agg #[I L a0_0,I L a0_1,I L a0_2]] rfl Z20 ?_;(with_reducible refine (spec_TagOk.calls a0_0 a0_1 a0_2 false _ A3.out).mono ?_);rintro e w17 ⟨rfl,hb⟩;refine ⟨_,rfl,?_⟩;have n_:=an_ (blk_below (pk_ BK340.out) hb)<|D (below_step (pB_ HB.out) hb);clear BK340 HB;obtain ⟨BK340,HB⟩:=n_;(try clear hb)))
  go_ret; exact ⟨er_, pB_ HB.out⟩

/-! ### spec_Lower: function 75 -/
def spec_Lower.f (a0_0 a0_1 a0_2 a1 : Int) : Option (Int × Int × Int) := (spec_TagOk.f a0_0 a0_1 a0_2).bind fun t346 => (if t346 = true then (if a1 < 0 then (some (0, 0, 0)) else (if a1 > 1000000000000 then (some (0, 0, 0)) else (some (mx 0 (wrap64 (a0_0 - a1)), mx 0 (wrap64 (a0_1 - a1)), mx 0 (wrap64 (a0_2 - a1)))))) else (some (0, 0, 0)))
set_option maxHeartbeats 8000000 in
set_option maxRecDepth 100000 in
theorem spec_Lower.calls (a0_0 a0_1 a0_2 a1 r1 r2 r3 : Int) (w : World) (h : spec_Lower.f a0_0 a0_1 a0_2 a1 = some (r1, r2, r3)) :
  Calls Try.prog 75 #[.agg #[I L a0_0,I L a0_1,I L a0_2],I L a1] w fun e w'=>e=.returned (.agg #[I L r1,I L r2,I L r3])∧Below w.heap.size w w':=by
 have hu29 := Try.underlying29
 have HB := D (Below.refl w.heap.size w)
 have H:((spec_TagOk.f a0_0 a0_1 a0_2).bind fun t346=>(if t346=true then (if a1 < 0 then (some (0,0,0)) else (if a1 > 1000000000000 then (some (0,0,0)) else (some (mx 0 (wrap64 (a0_0 - a1)),mx 0 (wrap64 (a0_1 - a1)),mx 0 (wrap64 (a0_2 - a1)))))) else (some (0,0,0))))=some (r1,r2,r3):=h
 clear h
 obtain ⟨t346, A30, H⟩ := bs_.mp H
 (try dsimp only at H)
 have A3 := D A30
 clear A30
 by_cases c4 : t346 = true
 ·subst c4
  rw [if_pos rfl] at H
  by_cases c5 : a1 < 0
  ·rw [if_pos c5] at H
   have c5b0 : decide (a1 < 0) = true := decide_eq_true c5; clear c5; simp only [Option.some.injEq, Prod.mk.injEq] at H; obtain ⟨rfl, rfl, rfl⟩ := H; go_enter Try.func75, Try.ntmps75
   go_wp2_with (first|((with_reducible refine gate_dst (N:=2) rfl ?_);refine bx_ (N:=2) (cs:=#[I L a0_0,I L a0_1,I L a0_2]) (t:=29) ?_;intro gb344 hg w6 hbox hb;have n_:=an_ (below_step (pB_ HB.out) hb)<|an_ (hbox)<|an_ (bg_ hg (pB_ HB.out):w.heap.size≤gb344)<|D (bg_ hg (pB_ HB.out):w.heap.size≤gb344);clear HB;obtain ⟨HB,BK344,GW344,GE344⟩:=n_;clear hb hbox hg)|((with_reducible refine gate_dst (N:=4) rfl ?_);refine bx_ (N:=4) (cs:=#[I L 0,I L 0,I L 0]) (t:=29) ?_;intro gb345 hg w7 hbox hb;have n_:=an_ (blk_below (pk_ BK344.out) hb)<|an_ (below_step (pB_ HB.out) hb)<|an_ (hbox)<|an_ (bg_ hg (pB_ HB.out):w.heap.size≤gb345)<|an_ (bg_ hg (pB_ HB.out):w.heap.size≤gb345)<|an_ (nl_ hg (pk_ BK344.out):gb344≠gb345)<|D (by rw [hg];exact Nat.ne_of_gt (blk_lt (pk_ BK344.out)):gb345≠gb344);clear BK344 HB;obtain ⟨BK344,HB,BK345,GW345,GE345,NB344_345,NB345_344⟩:=n_;clear hb hbox hg;(try have:=NB344_345.out);(try have:=NB345_344.out);have hcz9_0:=cells3 BK344.out)|((with_reducible refine gate_callee (f:=80) rfl ?_);refine goesL_ (some 6) rfl rfl Try.func80 (by kernel_rfl) rfl #[.agg #[I L a0_0,I L a0_1,I L a0_2]] rfl Z20 ?_;(with_reducible refine (spec_TagOk.calls a0_0 a0_1 a0_2 true _ A3.out).mono ?_);rintro e w10 ⟨rfl,hb⟩;refine ⟨_,rfl,?_⟩;have n_:=an_ (blk_below (pk_ BK344.out) hb)<|an_ (blk_below (pk_ BK345.out) hb)<|D (below_step (pB_ HB.out) hb);clear BK344 BK345 HB;obtain ⟨BK344,BK345,HB⟩:=n_;(try clear hb);have hcz11_0:=cells3 BK345.out))
   refine bodyPost_ret (results_cell_row rfl _ _ gb345 29 #[I L 0,I L 0,I L 0] (0,0) _ rfl Z15 Try.underlying29 rfl (by kernel_rfl)) rfl ?_;exact ⟨er_,pB_ HB.out⟩
  ·rw [if_neg c5] at H
   have c5b0 : decide (a1 < 0) = false := decide_eq_false c5; clear c5; have HU12 := D H; clear H; go_enter Try.func75, Try.ntmps75
   go_upto_if 15 with (first|((with_reducible refine gate_dst (N:=2) rfl ?_);refine bx_ (N:=2) (cs:=#[I L a0_0,I L a0_1,I L a0_2]) (t:=29) ?_;intro gb344 hg w13 hbox hb;have n_:=an_ (below_step (pB_ HB.out) hb)<|an_ (hbox)<|an_ (bg_ hg (pB_ HB.out):w.heap.size≤gb344)<|D (bg_ hg (pB_ HB.out):w.heap.size≤gb344);clear HB;obtain ⟨HB,BK344,GW344,GE344⟩:=n_;clear hb hbox hg)|((with_reducible refine gate_dst (N:=4) rfl ?_);refine bx_ (N:=4) (cs:=#[I L 0,I L 0,I L 0]) (t:=29) ?_;intro gb345 hg w14 hbox hb;have n_:=an_ (blk_below (pk_ BK344.out) hb)<|an_ (below_step (pB_ HB.out) hb)<|an_ (hbox)<|an_ (bg_ hg (pB_ HB.out):w.heap.size≤gb345)<|an_ (bg_ hg (pB_ HB.out):w.heap.size≤gb345)<|an_ (nl_ hg (pk_ BK344.out):gb344≠gb345)<|D (by rw [hg];exact Nat.ne_of_gt (blk_lt (pk_ BK344.out)):gb345≠gb344);clear BK344 HB;obtain ⟨BK344,HB,BK345,GW345,GE345,NB344_345,NB345_344⟩:=n_;clear hb hbox hg;(try have:=NB344_345.out);(try have:=NB345_344.out);have hcz16_0:=cells3 BK344.out)|((with_reducible refine gate_callee (f:=80) rfl ?_);refine goesL_ (some 6) rfl rfl Try.func80 (by kernel_rfl) rfl #[.agg #[I L a0_0,I L a0_1,I L a0_2]] rfl Z20 ?_;(with_reducible refine (spec_TagOk.calls a0_0 a0_1 a0_2 true _ A3.out).mono ?_);rintro e w17 ⟨rfl,hb⟩;refine ⟨_,rfl,?_⟩;have n_:=an_ (blk_below (pk_ BK344.out) hb)<|an_ (blk_below (pk_ BK345.out) hb)<|D (below_step (pB_ HB.out) hb);clear BK344 BK345 HB;obtain ⟨BK344,BK345,HB⟩:=n_;(try clear hb)))
   have H := HU12.out; clear HU12
   by_cases c18 : a1 > 1000000000000
   ·rw [if_pos c18] at H
    have c18b0:decide (1000000000000 < a1)=true:=decide_eq_true c18;clear c18;refine rw_ c18b0 ?_;simp only [Option.some.injEq,Prod.mk.injEq] at H;obtain ⟨rfl,rfl,rfl⟩:=H;(try have:=NB345_344.out);(try have:=NB344_345.out);have hcz20_0:=cells3 BK345.out
    go_wp2
    refine bodyPost_ret (results_cell_row rfl _ _ gb345 29 #[I L 0,I L 0,I L 0] (0,0) _ rfl Z15 Try.underlying29 rfl (by kernel_rfl)) rfl ?_;exact ⟨er_,pB_ HB.out⟩
   ·rw [if_neg c18] at H
    have c18b0:decide (1000000000000 < a1)=false:=decide_eq_false c18;clear c18;refine rw_ c18b0 ?_;obtain ⟨ji21,hji21⟩:∃ j_:Int,(mx 0 (wrap64 (a0_0 - a1)))=j_:=⟨_,rfl⟩
    replace H : (some (ji21, mx 0 (wrap64 (a0_1 - a1)), mx 0 (wrap64 (a0_2 - a1)))) = some (r1, r2, r3) := by first | (rw [hji21] at H; exact H) | (simp only [hji21] at H ⊢; exact H)
    (try (have hji21l:0≤ji21:=by (rw [← hji21];unfold mx;(repeat' split) <;> omega)));(try (have hji21m:0≤ji21:=by omega));have hji21_:(if 0 < (wrap64 (a0_0 - a1)) then (wrap64 (a0_0 - a1)) else 0)=ji21:=hji21;obtain ⟨ji22,hji22⟩:∃ j_:Int,(mx 0 (wrap64 (a0_1 - a1)))=j_:=⟨_,rfl⟩
    replace H : (some (ji21, ji22, mx 0 (wrap64 (a0_2 - a1)))) = some (r1, r2, r3) := by first | (rw [hji22] at H; exact H) | (simp only [hji22] at H ⊢; exact H)
    (try (have hji22l:0≤ji22:=by (rw [← hji22];unfold mx;(repeat' split) <;> omega)));(try (have hji22m:0≤ji22:=by omega));have hji22_:(if 0 < (wrap64 (a0_1 - a1)) then (wrap64 (a0_1 - a1)) else 0)=ji22:=hji22;obtain ⟨ji23,hji23⟩:∃ j_:Int,(mx 0 (wrap64 (a0_2 - a1)))=j_:=⟨_,rfl⟩
    replace H : (some (ji21, ji22, ji23)) = some (r1, r2, r3) := by first | (rw [hji23] at H; exact H) | (simp only [hji23] at H ⊢; exact H)
    (try (have hji23l:0≤ji23:=by (rw [← hji23];unfold mx;(repeat' split) <;> omega)));(try (have hji23m:0≤ji23:=by omega));have hji23_:(if 0 < (wrap64 (a0_2 - a1)) then (wrap64 (a0_2 - a1)) else 0)=ji23:=hji23;simp only [Option.some.injEq,Prod.mk.injEq] at H;obtain ⟨rfl,rfl,rfl⟩:=H;(try have:=NB344_345.out);(try have:=NB345_344.out);have hcz25_0:=cells3 BK344.out;have hcz26_0:=cells3 BK345.out
    go_wp2
    refine bodyPost_ret (results_cell_row rfl _ _ gb345 29 #[I L ji21,I L ji22,I L ji23] (0,0) _ rfl (by exact pP_ BK345.out) Try.underlying29 rfl (by kernel_rfl)) rfl ?_;exact ⟨by first|rfl|(simp [errW_none,errW_some] <;> rfl)|(simp only [← hji21,← hji22,← hji23];first|rfl|(simp [errW_none,errW_some] <;> rfl))|(simp [*,errW_none,errW_some] <;> rfl),pB_ HB.out⟩
 ·replace c4 := Bool.eq_false_iff.mpr c4
  subst c4; rw [if_neg (show ¬ (false = true) by decide)] at H; simp only [Option.some.injEq, Prod.mk.injEq] at H; obtain ⟨rfl, rfl, rfl⟩ := H; go_enter Try.func75, Try.ntmps75
  go_wp2_with (first|((with_reducible refine gate_dst (N:=2) rfl ?_);refine bx_ (N:=2) (cs:=#[I L a0_0,I L a0_1,I L a0_2]) (t:=29) ?_;intro gb344 hg w27 hbox hb;have n_:=an_ (below_step (pB_ HB.out) hb)<|an_ (hbox)<|an_ (bg_ hg (pB_ HB.out):w.heap.size≤gb344)<|D (bg_ hg (pB_ HB.out):w.heap.size≤gb344);clear HB;obtain ⟨HB,BK344,GW344,GE344⟩:=n_;clear hb hbox hg)|((with_reducible refine gate_dst (N:=4) rfl ?_);refine bx_ (N:=4) (cs:=#[I L 0,I L 0,I L 0]) (t:=29) ?_;intro gb345 hg w28 hbox hb;have n_:=an_ (blk_below (pk_ BK344.out) hb)<|an_ (below_step (pB_ HB.out) hb)<|an_ (hbox)<|an_ (bg_ hg (pB_ HB.out):w.heap.size≤gb345)<|an_ (bg_ hg (pB_ HB.out):w.heap.size≤gb345)<|an_ (nl_ hg (pk_ BK344.out):gb344≠gb345)<|D (by rw [hg];exact Nat.ne_of_gt (blk_lt (pk_ BK344.out)):gb345≠gb344);clear BK344 HB;obtain ⟨BK344,HB,BK345,GW345,GE345,NB344_345,NB345_344⟩:=n_;clear hb hbox hg;(try have:=NB344_345.out);(try have:=NB345_344.out);have hcz30_0:=cells3 BK344.out)|((with_reducible refine gate_callee (f:=80) rfl ?_);refine goesL_ (some 6) rfl rfl Try.func80 (by kernel_rfl) rfl #[.agg #[I L a0_0,I L a0_1,I L a0_2]] rfl Z20 ?_;(with_reducible refine (spec_TagOk.calls a0_0 a0_1 a0_2 false _ A3.out).mono ?_);rintro e w31 ⟨rfl,hb⟩;refine ⟨_,rfl,?_⟩;have n_:=an_ (blk_below (pk_ BK344.out) hb)<|an_ (blk_below (pk_ BK345.out) hb)<|D (below_step (pB_ HB.out) hb);clear BK344 BK345 HB;obtain ⟨BK344,BK345,HB⟩:=n_;(try clear hb);have hcz32_0:=cells3 BK345.out))
  refine bodyPost_ret (results_cell_row rfl _ _ gb345 29 #[I L 0,I L 0,I L 0] (0,0) _ rfl Z15 Try.underlying29 rfl (by kernel_rfl)) rfl ?_;exact ⟨er_,pB_ HB.out⟩

end Go.Proofs.Ytpkdkhhknmlpjaa.PFnTakenAdds
