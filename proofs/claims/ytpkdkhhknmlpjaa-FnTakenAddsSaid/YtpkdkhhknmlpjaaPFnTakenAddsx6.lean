-- by a program of this session's, over the kit's words
import Derived.Test.YtpkdkhhknmlpjaaPZFnTakenAdds
import Derived.Test.YtpkdkhhknmlpjaaPFnTakenAddsx0
import Derived.Test.YtpkdkhhknmlpjaaPFnTakenAddsx1
import Derived.Test.YtpkdkhhknmlpjaaPFnTakenAddsx3
import Derived.Test.YtpkdkhhknmlpjaaPFnTakenAddsx4
namespace Go.Proofs.Ytpkdkhhknmlpjaa.PFnTakenAdds
open Go.RowKit Go.Proofs.YtpkdkhhknmlpjaaW.PrintWords Go.Proofs.YtpkdkhhknmlpjaaW.PrintLast Go.Proofs.YtpkdkhhknmlpjaaW.PrintMore Go.Proofs.YtpkdkhhknmlpjaaV Go.Proofs.Ytpkdkhhknmlpjaa.ZFnTakenAdds
open Go.Value renaming int → I, slice → Y
open Go.IntKind renaming i64 → L
open Aside0 renaming mk → D
open Option renaming bind_eq_some_iff → bs_
attribute [local go_sem] max2_int min2_int max_two min_two max_three min_three max_four min_four   -- for this text's walks alone
set_option linter.unusedVariables false
set_option linter.unusedSimpArgs false

attribute [local go_sem high] eqA29
/-! ### spec_VecMost: function 71 -/
def spec_VecMost.f (a0_0 a0_1 a0_2 a1_0 a1_1 a1_2 : Int) : Option (Int × Int × Int) := some (mx a0_0 a1_0, mx a0_1 a1_1, mx a0_2 a1_2)
set_option maxHeartbeats 8000000 in
set_option maxRecDepth 100000 in
theorem spec_VecMost.calls (a0_0 a0_1 a0_2 a1_0 a1_1 a1_2 r1 r2 r3 : Int) (w : World) (h : spec_VecMost.f a0_0 a0_1 a0_2 a1_0 a1_1 a1_2 = some (r1, r2, r3)) :
  Calls Try.prog 71 #[.agg #[I L a0_0,I L a0_1,I L a0_2],.agg #[I L a1_0,I L a1_1,I L a1_2]] w fun e w'=>e=.returned (.agg #[I L r1,I L r2,I L r3])∧Below w.heap.size w w':=by
 have hu29 := Try.underlying29
 have HB := D (Below.refl w.heap.size w)
 have H : (some (mx a0_0 a1_0, mx a0_1 a1_1, mx a0_2 a1_2)) = some (r1, r2, r3) := h
 clear h
 obtain ⟨ji3, hji3⟩ : ∃ j_ : Int, (mx a0_0 a1_0) = j_ := ⟨_, rfl⟩
 replace H : (some (ji3, mx a0_1 a1_1, mx a0_2 a1_2)) = some (r1, r2, r3) := by first | (rw [hji3] at H; exact H) | (simp only [hji3] at H ⊢; exact H)
 have hji3_ : (if a0_0 < a1_0 then a1_0 else a0_0) = ji3 := hji3
 obtain ⟨ji4, hji4⟩ : ∃ j_ : Int, (mx a0_1 a1_1) = j_ := ⟨_, rfl⟩
 replace H : (some (ji3, ji4, mx a0_2 a1_2)) = some (r1, r2, r3) := by first | (rw [hji4] at H; exact H) | (simp only [hji4] at H ⊢; exact H)
 have hji4_ : (if a0_1 < a1_1 then a1_1 else a0_1) = ji4 := hji4
 obtain ⟨ji5, hji5⟩ : ∃ j_ : Int, (mx a0_2 a1_2) = j_ := ⟨_, rfl⟩
 replace H : (some (ji3, ji4, ji5)) = some (r1, r2, r3) := by first | (rw [hji5] at H; exact H) | (simp only [hji5] at H ⊢; exact H)
 have hji5_ : (if a0_2 < a1_2 then a1_2 else a0_2) = ji5 := hji5
 simp only [Option.some.injEq, Prod.mk.injEq] at H
 obtain ⟨rfl, rfl, rfl⟩ := H
 go_enter Try.func71, Try.ntmps71
 go_wp2_with (first|((with_reducible refine gate_dst (N:=2) rfl ?_);refine bx_ (N:=2) (cs:=#[I L a0_0,I L a0_1,I L a0_2]) (t:=29) ?_;intro gb174 hg w6 hbox hb;have n_:=an_ (below_step (pB_ HB.out) hb)<|an_ (hbox)<|an_ (bg_ hg (pB_ HB.out):w.heap.size≤gb174)<|D (bg_ hg (pB_ HB.out):w.heap.size≤gb174);clear HB;obtain ⟨HB,BK174,GW174,GE174⟩:=n_;clear hb hbox hg)|((with_reducible refine gate_dst (N:=3) rfl ?_);refine bx_ (N:=3) (cs:=#[I L a1_0,I L a1_1,I L a1_2]) (t:=29) ?_;intro gb175 hg w7 hbox hb;have n_:=an_ (blk_below (pk_ BK174.out) hb)<|an_ (below_step (pB_ HB.out) hb)<|an_ (hbox)<|an_ (bg_ hg (pB_ HB.out):w.heap.size≤gb175)<|an_ (bg_ hg (pB_ HB.out):w.heap.size≤gb175)<|an_ (nl_ hg (pk_ BK174.out):gb174≠gb175)<|D (by rw [hg];exact Nat.ne_of_gt (blk_lt (pk_ BK174.out)):gb175≠gb174);clear BK174 HB;obtain ⟨BK174,HB,BK175,GW175,GE175,NB174_175,NB175_174⟩:=n_;clear hb hbox hg)|((with_reducible refine gate_dst (N:=4) rfl ?_);refine bx_ (N:=4) (cs:=#[I L 0,I L 0,I L 0]) (t:=29) ?_;intro gb176 hg w8 hbox hb;have n_:=an_ (blk_below (pk_ BK174.out) hb)<|an_ (blk_below (pk_ BK175.out) hb)<|an_ (below_step (pB_ HB.out) hb)<|an_ (hbox)<|an_ (bg_ hg (pB_ HB.out):w.heap.size≤gb176)<|an_ (bg_ hg (pB_ HB.out):w.heap.size≤gb176)<|an_ (nl_ hg (pk_ BK174.out):gb174≠gb176)<|an_ (ng_ hg (pk_ BK174.out):gb176≠gb174)<|an_ (nl_ hg (pk_ BK175.out):gb175≠gb176)<|D (by rw [hg];exact Nat.ne_of_gt (blk_lt (pk_ BK175.out)):gb176≠gb175);clear BK174 BK175 HB;obtain ⟨BK174,BK175,HB,BK176,GW176,GE176,NB174_176,NB176_174,NB175_176,NB176_175⟩:=n_;clear hb hbox hg;(try have:=NB174_175.out);(try have:=NB175_174.out);(try have:=NB174_176.out);(try have:=NB176_174.out);have hcz11_0:=cells3 BK174.out;(try have:=NB175_176.out);(try have:=NB176_175.out);have hcz13_0:=cells3 BK175.out;have hcz14_0:=cells3 BK176.out))
 refine bodyPost_ret (results_cell_row rfl _ _ gb176 29 #[I L ji3,I L ji4,I L ji5] (0,0) _ rfl (by exact pP_ BK176.out) Try.underlying29 rfl (by kernel_rfl)) rfl ?_
 exact ⟨by first|rfl|(simp [errW_none,errW_some] <;> rfl)|(simp only [← hji3,← hji4,← hji5];first|rfl|(simp [errW_none,errW_some] <;> rfl))|(simp [*,errW_none,errW_some] <;> rfl),pB_ HB.out⟩

/-! ### spec_FairOwed: function 69 -/
def spec_FairOwed.j0 : Nat → Int → Bool → Int → Int → Int → Int → List (S83) → Option (Bool)
 | 0, _, _, _, _, _, _, _ => none
 | k + 1,x1,x14,x178000,x178001,x178002,x178003,x178004=>if x14=true then (some false) else ((spec_l18At.f k x178000 x178001 x178002 x178003 x178004 x1).bind fun t180=>(if 0≤t180 then (if t180 < (x178004.length:Int) then (if (rd_T83 x178004 t180).f2=true then (some true) else ((spec_VecMost.f ((rd_T83 x178004 t180).f3.f0) ((rd_T83 x178004 t180).f3.f1) ((rd_T83 x178004 t180).f3.f2) x178001 x178002 x178003).bind fun bt183=>(some (!(bt183.1 == x178001) || (!(bt183.2.1 == x178002) || (!(bt183.2.2 == x178003))))))) else (none)) else (none)))
def spec_FairOwed.f (k : Nat) (a0_0 a0_1 a0_2 a0_3 : Int) (l0_4 : List (S83)) (a1 : Int) : Option (Bool) := (spec_FairOk.f k a0_0 a0_1 a0_2 a0_3 l0_4).bind fun t178 => (if t178 = true then ((spec_l18At.f k a0_0 a0_1 a0_2 a0_3 l0_4 a1).bind fun t179 => (spec_FairOwed.j0 k a1 (decide (t179 < 0)) a0_0 a0_1 a0_2 a0_3 l0_4)) else (spec_FairOwed.j0 k a1 true a0_0 a0_1 a0_2 a0_3 l0_4))
def spec_FairOwed.T3 : Bool × List (List Nat × List Nat) := (true, [([], []), ([0], [0]), ([], []), ([], []), ([2, 3], [2, 3]), ([1, 4], [1, 4]), ([5], [5]), ([], []), ([7, 6, 4, 0, 1, 2, 3, 4, 5, 6, 7], [6, 7])])
def spec_FairOwed.B3 : List Nat := [0, 1, 0, 0, 12, 31, 63, 0, 255]
theorem spec_FairOwed.tab3 : rtab .any (opsOf Try.f69 3) = spec_FairOwed.T3 := by kernel_rfl
theorem spec_FairOwed.bits3 : waitsOk spec_FairOwed.T3.2 spec_FairOwed.B3 = true := by kernel_rfl
def spec_FairOwed.T4 : Bool × List (List Nat × List Nat) := (true, [([], []), ([0], [0]), ([1], [1]), ([2], [2]), ([3, 2], [2, 3]), ([2], [2]), ([5, 2], [2, 5]), ([4, 6, 2, 2], [2, 4, 6]), ([2], [2]), ([8, 2], [2, 8]), ([7, 9, 2], [2, 7, 9]), ([2, 10], [2, 10]), ([11, 7, 0, 1, 2, 3, 4, 5, 6, 7, 8, 9, 10, 11], [11])])
def spec_FairOwed.B4 : List Nat := [0, 1, 3, 7, 15, 7, 39, 127, 7, 263, 1023, 2047, 4095]
theorem spec_FairOwed.tab4 : rtab .any (opsOf Try.f69 4) = spec_FairOwed.T4 := by kernel_rfl
theorem spec_FairOwed.bits4 : waitsOk spec_FairOwed.T4.2 spec_FairOwed.B4 = true := by kernel_rfl
set_option maxHeartbeats 8000000 in
set_option maxRecDepth 100000 in
theorem spec_FairOwed.calls (k : Nat) (a0_0 a0_1 a0_2 a0_3 : Int) (A0_4 : Option Addr) (c0_4 : Nat) (l0_4 : List (S83)) (a1 : Int) (r : Bool) (w : World) (hr0_4 : Kd.C k83 w A0_4 l0_4.length l0_4) (hc0_4 : l0_4.length ≤ c0_4) (h : spec_FairOwed.f k a0_0 a0_1 a0_2 a0_3 l0_4 a1 = some r) :
  Calls Try.prog 69 #[.agg #[I L a0_0,I L a0_1,I L a0_2,I L a0_3,Y A0_4 l0_4.length c0_4],I L a1] w fun e w'=>e=.returned (.bool r)∧Below w.heap.size w w':=by
 have hu59 := Try.underlying59
 have hu83 := Try.underlying83
 have hu29 := Try.underlying29
 have HR0_4 := D hr0_4
 have HC0_4 := D hc0_4
 clear hr0_4 hc0_4
 have HB := D (Below.refl w.heap.size w)
 have H:((spec_FairOk.f k a0_0 a0_1 a0_2 a0_3 l0_4).bind fun Xb=>(if Xb=true then ((spec_l18At.f k a0_0 a0_1 a0_2 a0_3 l0_4 a1).bind fun Ob=>(spec_FairOwed.j0 k a1 (decide (Ob < 0)) a0_0 a0_1 a0_2 a0_3 l0_4)) else (spec_FairOwed.j0 k a1 true a0_0 a0_1 a0_2 a0_3 l0_4)))=some r:=h
 clear h
 have HC3 := D H
 clear H
 go_enter Try.func69, Try.ntmps69
 go_upto_region 1 with (first|((with_reducible refine gate_dst (N:=2) rfl ?_);refine bx_ (N:=2) (cs:=#[I L a0_0,I L a0_1,I L a0_2,I L a0_3,Y A0_4 l0_4.length c0_4]) (t:=59) ?_;intro Jb hg w4 hbox hb;have n_:=an_ (below_step (pB_ HB.out) hb)<|an_ (hbox)<|an_ (bg_ hg (pB_ HB.out):w.heap.size≤Jb)<|D (bg_ hg (pB_ HB.out):w.heap.size≤Jb);clear HB;obtain ⟨HB,Oa,Uh,Xh⟩:=n_;clear hb hbox hg))
 (try simp only [Act.put, List.setIfInBounds_toArray, List.set_cons_zero, List.set_cons_succ])
 go_cut [14] (fun v14 wc=>∃ (kq:Nat) (Ub:Bool),v14=.bool Ub∧Aside0 (spec_FairOwed.j0 kq a1 Ub a0_0 a0_1 a0_2 a0_3 l0_4=some r)∧Aside0 (kq≤k)∧Aside0 (wc.heap[Jb]?=some (.cells #[I L a0_0,I L a0_1,I L a0_2,I L a0_3,(Y A0_4 l0_4.length c0_4)] 59 (0,0)))∧Aside0 (Below w.heap.size w wc))
 case first =>
  have H := HC3.out; clear HC3; obtain ⟨Xb, A50, H⟩ := bs_.mp H; (try dsimp only at H); have A5 := D A50; clear A50
  by_cases c6 : Xb = true
  ·subst c6
   rw [if_pos rfl] at H;obtain ⟨Ob,A70,H⟩:=bs_.mp H;(try dsimp only at H);have A7:=D A70;clear A70;have H':=D H;clear H;have Jc:=cells5 Oa.out
   go_wp2_with (first|((with_reducible refine gate_callee (f:=48) rfl ?_);refine goesL_ (some 7) rfl rfl Try.func48 (by kernel_rfl) rfl #[.agg #[I L a0_0,I L a0_1,I L a0_2,I L a0_3,Y A0_4 l0_4.length c0_4]] rfl Z20 ?_;(with_reducible refine (spec_FairOk.calls k a0_0 a0_1 a0_2 a0_3 _ _ l0_4 true _ ?side1 ?side2 A5.out).mono ?_);(case side1=>exact pC_ (Kd.C_below HR0_4.out HB.out));(case side2=>exact HC0_4.out);rintro e w9 ⟨rfl,hb⟩;refine ⟨_,rfl,?_⟩;have n_:=an_ (blk_below (pk_ Oa.out) hb)<|D (below_step (pB_ HB.out) hb);clear Oa HB;obtain ⟨Oa,HB⟩:=n_;(try clear hb);have Xd:=cells5 Oa.out)|(go_at_call 68;(with_reducible refine (spec_l18At.calls k a0_0 a0_1 a0_2 a0_3 _ _ l0_4 a1 Ob _ ?side1 ?side2 A7.out).mono ?_);(case side1=>exact pC_ (Kd.C_below HR0_4.out HB.out));(case side2=>exact HC0_4.out);rintro e w11 ⟨rfl,hb⟩;have n_:=an_ (blk_below (pk_ Oa.out) hb)<|D (below_step (pB_ HB.out) hb);clear Oa HB;obtain ⟨Oa,HB⟩:=n_;(try clear hb)))
   go_meet
   case rel => exact ⟨_, (decide (Ob < 0)), Z69, H', ⟨by first | omega | exact Nat.le_refl _⟩, ⟨pk_ Oa.out⟩, ⟨pB_ HB.out⟩⟩
  ·replace c6 := Bool.eq_false_iff.mpr c6
   subst c6; rw [if_neg (show ¬ (false = true) by decide)] at H; have H' := D H; clear H; obtain ⟨Of, Uf, Xf, Jg, Kg, Mg, Og, Ug, Xg, Jh⟩ := cells5 Oa.out
   go_wp2_with (first|((with_reducible refine gate_callee (f:=48) rfl ?_);refine goesL_ (some 7) rfl rfl Try.func48 (by kernel_rfl) rfl #[.agg #[I L a0_0,I L a0_1,I L a0_2,I L a0_3,Y A0_4 l0_4.length c0_4]] rfl Z20 ?_;(with_reducible refine (spec_FairOk.calls k a0_0 a0_1 a0_2 a0_3 _ _ l0_4 false _ ?side1 ?side2 A5.out).mono ?_);(case side1=>exact pC_ (Kd.C_below HR0_4.out HB.out));(case side2=>exact HC0_4.out);rintro e w13 ⟨rfl,hb⟩;refine ⟨_,rfl,?_⟩;have n_:=an_ (blk_below (pk_ Oa.out) hb)<|D (below_step (pB_ HB.out) hb);clear Oa HB;obtain ⟨Oa,HB⟩:=n_;(try clear hb)))
   go_meet
   case rel => exact ⟨_, (true), Z69, H', ⟨by first | omega | exact Nat.le_refl _⟩, ⟨pk_ Oa.out⟩, ⟨pB_ HB.out⟩⟩
 case rest =>
  clear HC3
  (try clear p2);(try clear c4);(try clear c6);(try clear Xd);(try clear Of Uf Xf Jg Kg Mg Og Ug Xg Jh);(try clear Jc)
  obtain ⟨kq, Ub, rfl, HA, HJ2, Oa, HB⟩ := hcut
  cases kq with
  | zero => exact absurd HA.out (by simp [spec_FairOwed.j0])
  | succ kj2 =>
   have H := HA.out; clear HA; simp only [spec_FairOwed.j0] at H
   by_cases c14 : Ub = true
   ·subst c14
    rw [if_pos rfl] at H; obtain rfl := Option.some.inj H
    go_wp2
    go_ret; exact ⟨er_, pB_ HB.out⟩
   ·replace c14 := Bool.eq_false_iff.mpr c14
    subst c14; rw [if_neg (show ¬ (false = true) by decide)] at H; obtain ⟨Ma, A150, H⟩ := bs_.mp H; (try dsimp only at H); have A15 := D A150; clear A150
    by_cases c16 : 0 ≤ Ma
    ·rw [if_pos c16] at H
     have c16b0 : decide (0 ≤ Ma) = true := decide_eq_true c16; clear c16
     by_cases c17 : Ma < (l0_4.length : Int)
     ·rw [if_pos c17] at H
      have c17b0 : decide (Ma < (l0_4.length : Int)) = true := decide_eq_true c17; clear c17; obtain ⟨bq18, hbq18⟩ : ∃ b_ : Bool, b_ = ((rd_T83 l0_4 Ma).f2) := ⟨_, rfl⟩
      replace H:(if bq18=true then (some true) else ((spec_VecMost.f ((rd_T83 l0_4 Ma).f3.f0) ((rd_T83 l0_4 Ma).f3.f1) ((rd_T83 l0_4 Ma).f3.f2) a0_1 a0_2 a0_3).bind fun bt183=>(some (!(bt183.1 == a0_1) || (!(bt183.2.1 == a0_2) || (!(bt183.2.2 == a0_3)))))))=some r:=by rw [← hbq18] at H;exact H
      have Nbq18 := D hbq18; clear hbq18
      by_cases c19 : bq18 = true
      ·subst c19
       rw [if_pos rfl] at H; obtain rfl := Option.some.inj H
       try go_wp2
       have n_ := an_ (blk_drew Oa.out) <| D (below_drew1 HB.out)
       clear Oa HB;obtain ⟨Oa,HB⟩:=n_;have p181:0≤(Ma:Int):=od_ Z68;have q181:Ma < (l0_4.length:Int):=od_ Z68;obtain ⟨ad181,e181,hx181_0,hx181_1,hx181_2,hx181_3,hx181_4,hx181_5⟩:=at_T83 HR0_4.out Ma p181 q181;have hw181_5:=hx181_5;have hw181_4:=hx181_4;have hw181_3:=hx181_3;have hw181_2:=hx181_2;have hw181_1:=hx181_1;have hw181_0:=hx181_0;(try rw [← Nbq18.out] at hx181_2);(try rw [← Nbq18.out] at hw181_2);cases e181;replace hx181_0:=rc_ HB.out hx181_0;replace hx181_1:=rc_ HB.out hx181_1;replace hx181_2:=rc_ HB.out hx181_2;replace hx181_3:=rc_ HB.out hx181_3;replace hx181_4:=rc_ HB.out hx181_4;replace hx181_5:=rc_ HB.out hx181_5;replace p181:=eq_true p181;replace q181:=eq_true q181;refine start_ (n:=9) (S:=fun w'=>w'.cell? ⟨Jb,0,none⟩=some (I L a0_0)∧w'.cell? ⟨Jb,1,none⟩=some (I L a0_1)∧w'.cell? ⟨Jb,2,none⟩=some (I L a0_2)∧w'.cell? ⟨Jb,3,none⟩=some (I L a0_3)∧w'.cell? ⟨Jb,4,none⟩=some (Y (some ad181) l0_4.length c0_4)∧w'.cell? (ad181.add ((Ma).toNat * 6))=some (I L ((rd_T83 l0_4 Ma).f0))∧w'.cell? ⟨(ad181.add ((Ma).toNat * 6)).block,(ad181.add ((Ma).toNat * 6)).off + 1,none⟩=some (I L ((rd_T83 l0_4 Ma).f1))∧w'.cell? ⟨(ad181.add ((Ma).toNat * 6)).block,(ad181.add ((Ma).toNat * 6)).off + 2,none⟩=some (.bool true)∧w'.cell? ⟨(ad181.add ((Ma).toNat * 6)).block,(ad181.add ((Ma).toNat * 6)).off + 3,none⟩=some (I L ((rd_T83 l0_4 Ma).f3.f0))∧w'.cell? ⟨(ad181.add ((Ma).toNat * 6)).block,(ad181.add ((Ma).toNat * 6)).off + 4,none⟩=some (I L ((rd_T83 l0_4 Ma).f3.f1))∧w'.cell? ⟨(ad181.add ((Ma).toNat * 6)).block,(ad181.add ((Ma).toNat * 6)).off + 5,none⟩=some (I L ((rd_T83 l0_4 Ma).f3.f2))) (ds:=[]) (bz 9 0) (by kernel_rfl) rfl (by kernel_rfl) (bk5_ Oa.out (re6_ HB.out hw181_0 hw181_1 hw181_2 hw181_3 hw181_4 hw181_5)) (fun hHeld=>?_);refine with_tabW spec_FairOwed.tab3 spec_FairOwed.bits3 (fun HT_ HW_=>?_);generalize wc.drew=w20 at Oa HB hx181_0 hx181_1 hx181_2 hx181_3 hx181_4 hx181_5 hHeld ⊢;refine pb_ 0 ?_;refine pb_ 3 ?_;refine tb_ 1 rfl rfl hHeld Z62 ?_;refine tb_ 2 rfl rfl hHeld Z62 ?_;refine join_ (σ:=Nat) 1 (bz 9 255) (fun s_=>[(19,I L Ma),(5,.pointer (some ⟨s_,0,none⟩)),(20,.pointer (some (ad181.add ((Ma).toNat * 6)))),(21,.agg #[I L ((rd_T83 l0_4 Ma).f0),I L ((rd_T83 l0_4 Ma).f1),.bool true,I L ((rd_T83 l0_4 Ma).f3.f0),I L ((rd_T83 l0_4 Ma).f3.f1),I L ((rd_T83 l0_4 Ma).f3.f2)])]) (fun s_ w'=>(w'.cell? ⟨Jb,0,none⟩=some (I L a0_0)∧w'.cell? ⟨Jb,1,none⟩=some (I L a0_1)∧w'.cell? ⟨Jb,2,none⟩=some (I L a0_2)∧w'.cell? ⟨Jb,3,none⟩=some (I L a0_3)∧w'.cell? ⟨Jb,4,none⟩=some (Y (some ad181) l0_4.length c0_4)∧w'.cell? (ad181.add ((Ma).toNat * 6))=some (I L ((rd_T83 l0_4 Ma).f0))∧w'.cell? ⟨(ad181.add ((Ma).toNat * 6)).block,(ad181.add ((Ma).toNat * 6)).off + 1,none⟩=some (I L ((rd_T83 l0_4 Ma).f1))∧w'.cell? ⟨(ad181.add ((Ma).toNat * 6)).block,(ad181.add ((Ma).toNat * 6)).off + 2,none⟩=some (.bool true)∧w'.cell? ⟨(ad181.add ((Ma).toNat * 6)).block,(ad181.add ((Ma).toNat * 6)).off + 3,none⟩=some (I L ((rd_T83 l0_4 Ma).f3.f0))∧w'.cell? ⟨(ad181.add ((Ma).toNat * 6)).block,(ad181.add ((Ma).toNat * 6)).off + 4,none⟩=some (I L ((rd_T83 l0_4 Ma).f3.f1))∧w'.cell? ⟨(ad181.add ((Ma).toNat * 6)).block,(ad181.add ((Ma).toNat * 6)).off + 5,none⟩=some (I L ((rd_T83 l0_4 Ma).f3.f2)))∧(w'.heap[Jb]?=some (.cells #[I L a0_0,I L a0_1,I L a0_2,I L a0_3,Y (some ad181) l0_4.length c0_4] 59 (0,0)))∧(w'.heap[s_]?=some (.cells #[I L 0,I L 0,.bool false,I L 0,I L 0,I L 0] 83 (0,0)))∧(w.heap.size≤s_)∧(w.heap.size≤s_)∧(Jb≠s_)∧(s_≠Jb)∧(Below w.heap.size w w')) ?_ ?_
       rotate_left
       ·intro hCont
        refine two_ (i := 4) (j := 7) (Ni := some 19) (Nj := some 5) (bz 9 31) (bz 9 143) rfl rfl rfl rfl (two_of HT_.out (by kernel_rfl)) (by decide) (by decide) (fun K hK => ?_) (fun K hK => ?_)
        ·skip
         refine goes_ Try.func68 (by kernel_rfl) rfl #[.agg #[I L a0_0,I L a0_1,I L a0_2,I L a0_3,Y (some ad181) l0_4.length c0_4],I L a1] (by rfl) rfl rfl Z20 ?_;with_reducible refine (spec_l18At.calls kj2 a0_0 a0_1 a0_2 a0_3 _ _ l0_4 a1 Ma _ ?side1 ?side2 A15.out).mono ?_
         (case side1 => exact pC_ (Kd.C_below HR0_4.out HB.out)); (case side2 => exact HC0_4.out); rintro e w21 ⟨rfl, hb⟩; refine ⟨_, rfl, ?_⟩
         have n_ := an_ (blk_below (pk_ Oa.out) hb) <| D (below_step (pB_ HB.out) hb)
         clear Oa HB;obtain ⟨Oa,HB⟩:=n_;refine hK.out _ _ (bk5_ Oa.out (re6_ HB.out hw181_0 hw181_1 hw181_2 hw181_3 hw181_4 hw181_5)) (fun hHeld=>?_);clear hK K;refine nx_ (N:=some 19) ?_;refine pb_ 5 ?_;refine tb_ 6 rfl rfl hHeld Z62 ?_;refine oa_ 7 5 9 255 HT_ (fun K hK=>?_);refine box_step ?hg (N:=5) ?hd (cs:=#[I L 0,I L 0,.bool false,I L 0,I L 0,I L 0]) (t:=83) ?hr ?_;(case hd=>rfl);(case hg=>rfl);(case hr=>first|(go_simp;done)|(go_simp;rfl));intro Ka hg w22 hbox hb
         have n_:=an_ (blk_below (pk_ Oa.out) hb)<|an_ (below_step (pB_ HB.out) hb)<|an_ (hbox)<|an_ (bg_ hg (pB_ HB.out):w.heap.size≤Ka)<|an_ (bg_ hg (pB_ HB.out):w.heap.size≤Ka)<|an_ (nl_ hg (pk_ Oa.out):Jb≠Ka)<|D (ng_ hg (pk_ Oa.out):Ka≠Jb)
         clear Oa HB;obtain ⟨Oa,HB,Xa,Ja,Mb,Ua,Kb⟩:=n_;clear hb hbox hg;refine hK.out _ _ (bk5_ Oa.out (re6_ HB.out hw181_0 hw181_1 hw181_2 hw181_3 hw181_4 hw181_5)) (fun hHeld=>?_);clear hK K;refine nx_ (N:=some 5) ?_;exact norm_ Z26 (hCont (Ka) _ ⟨hHeld,(pk_ Oa.out),(pk_ Xa.out),Ja.out,Mb.out,Ua.out,Kb.out,(pB_ HB.out)⟩)
        ·skip
         refine box_step ?hg (N:=5) ?hd (cs:=#[I L 0,I L 0,.bool false,I L 0,I L 0,I L 0]) (t:=83) ?hr ?_;(case hd=>rfl);(case hg=>rfl);(case hr=>first|(go_simp;done)|(go_simp;rfl));intro Ka hg w21 hbox hb
         have n_:=an_ (blk_below (pk_ Oa.out) hb)<|an_ (below_step (pB_ HB.out) hb)<|an_ (hbox)<|an_ (bg_ hg (pB_ HB.out):w.heap.size≤Ka)<|an_ (bg_ hg (pB_ HB.out):w.heap.size≤Ka)<|an_ (nl_ hg (pk_ Oa.out):Jb≠Ka)<|D (ng_ hg (pk_ Oa.out):Ka≠Jb)
         clear Oa HB;obtain ⟨Oa,HB,Xa,Ja,Mb,Ua,Kb⟩:=n_;clear hb hbox hg;refine hK.out _ _ (bk5_ Oa.out (re6_ HB.out hw181_0 hw181_1 hw181_2 hw181_3 hw181_4 hw181_5)) (fun hHeld=>?_);clear hK K;refine nx_ (N:=some 5) ?_;refine oa_ 4 19 9 159 HT_ (fun K hK=>?_);refine goes_ Try.func68 (by kernel_rfl) rfl #[.agg #[I L a0_0,I L a0_1,I L a0_2,I L a0_3,Y (some ad181) l0_4.length c0_4],I L a1] (by rfl) rfl rfl Z20 ?_;with_reducible refine (spec_l18At.calls kj2 a0_0 a0_1 a0_2 a0_3 _ _ l0_4 a1 Ma _ ?side1 ?side2 A15.out).mono ?_
         (case side1 => exact pC_ (Kd.C_below HR0_4.out HB.out)); (case side2 => exact HC0_4.out); rintro e w22 ⟨rfl, hb⟩; refine ⟨_, rfl, ?_⟩
         have n_ := an_ (blk_below (pk_ Oa.out) hb) <| an_ (blk_below (pk_ Xa.out) hb) <| D (below_step (pB_ HB.out) hb)
         clear Oa Xa HB;obtain ⟨Oa,Xa,HB⟩:=n_;refine hK.out _ _ (bk5_ Oa.out (re6_ HB.out hw181_0 hw181_1 hw181_2 hw181_3 hw181_4 hw181_5)) (fun hHeld=>?_);clear hK K;refine nx_ (N:=some 19) ?_;refine pb_ 5 ?_;refine tb_ 6 rfl rfl hHeld Z62 ?_;exact norm_ Z26 (hCont (Ka) _ ⟨hHeld,(pk_ Oa.out),(pk_ Xa.out),Ja.out,Mb.out,Ua.out,Kb.out,(pB_ HB.out)⟩)
       rintro Ka w23 ⟨hS_, h0_, h1_, h2_, h3_, h4_, h5_, h6_⟩
       have n_ := an_ (h0_) <| an_ (h1_) <| an_ (h2_) <| an_ (h3_) <| an_ (h4_) <| an_ (h5_) <| D (h6_)
       clear Oa HB h0_ h1_ h2_ h3_ h4_ h5_ h6_;obtain ⟨Oa,Xa,Ja,Mb,Ua,Kb,HB⟩:=n_;have hHeld:w23.cell? ⟨Jb,0,none⟩=some (I L a0_0)∧w23.cell? ⟨Jb,1,none⟩=some (I L a0_1)∧w23.cell? ⟨Jb,2,none⟩=some (I L a0_2)∧w23.cell? ⟨Jb,3,none⟩=some (I L a0_3)∧w23.cell? ⟨Jb,4,none⟩=some (Y (some ad181) l0_4.length c0_4)∧w23.cell? (ad181.add ((Ma).toNat * 6))=some (I L ((rd_T83 l0_4 Ma).f0))∧w23.cell? ⟨(ad181.add ((Ma).toNat * 6)).block,(ad181.add ((Ma).toNat * 6)).off + 1,none⟩=some (I L ((rd_T83 l0_4 Ma).f1))∧w23.cell? ⟨(ad181.add ((Ma).toNat * 6)).block,(ad181.add ((Ma).toNat * 6)).off + 2,none⟩=some (.bool true)∧w23.cell? ⟨(ad181.add ((Ma).toNat * 6)).block,(ad181.add ((Ma).toNat * 6)).off + 3,none⟩=some (I L ((rd_T83 l0_4 Ma).f3.f0))∧w23.cell? ⟨(ad181.add ((Ma).toNat * 6)).block,(ad181.add ((Ma).toNat * 6)).off + 4,none⟩=some (I L ((rd_T83 l0_4 Ma).f3.f1))∧w23.cell? ⟨(ad181.add ((Ma).toNat * 6)).block,(ad181.add ((Ma).toNat * 6)).off + 5,none⟩=some (I L ((rd_T83 l0_4 Ma).f3.f2)):=hS_;refine norm_ (a':=?_) ?_ ?_;rotate_left
       ·simp only [putAll, Act.put, List.setIfInBounds_toArray, List.set_cons_zero, List.set_cons_succ]
        rfl
       refine one_ (i:=8) (N:=none) (bz 9 511) rfl rfl (one_of HT_.out (by kernel_rfl)) (by decide) (fun K hK=>?_);have hs24:w23.cell? ⟨Ka,0,none⟩=some (I L 0):=bc_ Xa.out 0;have hfs24:=blk_frozen Xa.out 0;have hns24_0:=Ua.out;have hms24_0:=Kb.out;have hs25:w23.cell? ⟨Ka,1,none⟩=some (I L 0):=bc_ Xa.out 1;have hfs25:=blk_frozen Xa.out 1;have hns25_0:=Ua.out;have hms25_0:=Kb.out;have hs26:w23.cell? ⟨Ka,2,none⟩=some (.bool false):=bc_ Xa.out 2;have hfs26:=blk_frozen Xa.out 2;have hns26_0:=Ua.out;have hms26_0:=Kb.out;have hs27:w23.cell? ⟨Ka,3,none⟩=some (I L 0):=bc_ Xa.out 3;have hfs27:=blk_frozen Xa.out 3;have hns27_0:=Ua.out;have hms27_0:=Kb.out;have hs28:w23.cell? ⟨Ka,4,none⟩=some (I L 0):=bc_ Xa.out 4;have hfs28:=blk_frozen Xa.out 4;have hns28_0:=Ua.out;have hms28_0:=Kb.out;have hs29:w23.cell? ⟨Ka,5,none⟩=some (I L 0):=bc_ Xa.out 5;have hfs29:=blk_frozen Xa.out 5;have hns29_0:=Ua.out;have hms29_0:=Kb.out;refine skip_ (w1:=?_) (by rfl) rfl ?_ ?_;rotate_left
       ·go_simp
        rfl
       refine hK.out _ _ ⟨(cF_ Ua.out (hHeld.1)),(cF_ Ua.out (hHeld.2.1)),(cF_ Ua.out (hHeld.2.2.1)),(cF_ Ua.out (hHeld.2.2.2.1)),(cF_ Ua.out (hHeld.2.2.2.2.1)),(cF_ (g:=Ka) Z76 (hHeld.2.2.2.2.2.1)),(cF_ (g:=Ka) Z77 (hHeld.2.2.2.2.2.2.1)),(cF_ (g:=Ka) Z78 (hHeld.2.2.2.2.2.2.2.1)),(cF_ (g:=Ka) Z79 (hHeld.2.2.2.2.2.2.2.2.1)),(cF_ (g:=Ka) Z80 (hHeld.2.2.2.2.2.2.2.2.2.1)),(cF_ (g:=Ka) Z81 (hHeld.2.2.2.2.2.2.2.2.2.2))⟩ (fun hHeld=>?_);clear hK K;refine done_ (done_of HT_.out (by kernel_rfl)) ?_
       try go_wp2
       obtain ⟨w30,hq_⟩:∃ W_,W_=((((((w23.setCell ⟨Ka,0,none⟩ (I L ((rd_T83 l0_4 Ma).f0))).setCell ⟨Ka,1,none⟩ (I L ((rd_T83 l0_4 Ma).f1))).setCell ⟨Ka,2,none⟩ (.bool true)).setCell ⟨Ka,3,none⟩ (I L ((rd_T83 l0_4 Ma).f3.f0))).setCell ⟨Ka,4,none⟩ (I L ((rd_T83 l0_4 Ma).f3.f1))).setCell ⟨Ka,5,none⟩ (I L ((rd_T83 l0_4 Ma).f3.f2))):=⟨_,rfl⟩;have n0_:Aside0 (w30.heap[Jb]?=some (.cells #[I L a0_0,I L a0_1,I L a0_2,I L a0_3,Y (some ad181) l0_4.length c0_4] 59 (0,0))):=⟨by rw [hq_];exact pP_ Oa.out⟩;have n1_:Aside0 (w30.heap[Ka]?=some (.cells #[I L ((rd_T83 l0_4 Ma).f0),I L ((rd_T83 l0_4 Ma).f1),.bool true,I L ((rd_T83 l0_4 Ma).f3.f0),I L ((rd_T83 l0_4 Ma).f3.f1),I L ((rd_T83 l0_4 Ma).f3.f2)] 83 (0,0))):=⟨by rw [hq_];exact pP_ Xa.out⟩;have n2_:Aside0 (Below w.heap.size w w30):=⟨by rw [hq_];exact pB_ HB.out⟩;(try clear Oa);(try clear Xa);(try clear HB);(try rw [←hq_]);clear hq_;have Oa:=n0_;have Xa:=n1_;have HB:=n2_;clear n0_ n1_ n2_
       have n_ := an_ (blk_drew Oa.out) <| an_ (blk_drew Xa.out) <| D (below_drew1 HB.out)
       clear Oa Xa HB;obtain ⟨Oa,Xa,HB⟩:=n_;refine start_ (n:=13) (S:=fun w'=>w'.cell? ⟨Ka,0,none⟩=some (I L ((rd_T83 l0_4 Ma).f0))∧w'.cell? ⟨Ka,1,none⟩=some (I L ((rd_T83 l0_4 Ma).f1))∧w'.cell? ⟨Ka,2,none⟩=some (.bool true)∧w'.cell? ⟨Ka,3,none⟩=some (I L ((rd_T83 l0_4 Ma).f3.f0))∧w'.cell? ⟨Ka,4,none⟩=some (I L ((rd_T83 l0_4 Ma).f3.f1))∧w'.cell? ⟨Ka,5,none⟩=some (I L ((rd_T83 l0_4 Ma).f3.f2))) (ds:=[]) (bz 13 0) (by kernel_rfl) rfl (by kernel_rfl) (be6_ Xa.out) (fun hHeld=>?_);refine with_tabW spec_FairOwed.tab4 spec_FairOwed.bits4 (fun HT_ HW_=>?_);generalize w30.drew=w31 at Oa Xa HB hHeld ⊢;refine pb_ 0 ?_;refine tb_ 1 rfl rfl hHeld Z65 ?_;refine pb_ 2 ?_;refine ob_ 3 ?_;refine ob_ 4 ?_;refine ob_ 5 ?_;refine ob_ 6 ?_;refine ob_ 7 ?_;refine ob_ 8 ?_;refine ob_ 9 ?_;refine ob_ 10 ?_;refine pb_ 11 ?_;refine pb_ 12 ?_;refine done_ (done_of HT_.out (by kernel_rfl)) ?_
       try go_wp2
       go_ret; exact ⟨er_, pB_ HB.out⟩
      ·replace c19 := Bool.eq_false_iff.mpr c19
       subst c19;rw [if_neg (show ¬ (false=true) by decide)] at H;obtain ⟨⟨Kh,Mh,Oh⟩,A320,H⟩:=bs_.mp H;(try dsimp only at H);have A32:=D A320;clear A320;obtain rfl:=Option.some.inj H
       try go_wp2
       have n_ := an_ (blk_drew Oa.out) <| D (below_drew1 HB.out)
       clear Oa HB;obtain ⟨Oa,HB⟩:=n_;have p181:0≤(Ma:Int):=od_ Z68;have q181:Ma < (l0_4.length:Int):=od_ Z68;obtain ⟨ad181,e181,hx181_0,hx181_1,hx181_2,hx181_3,hx181_4,hx181_5⟩:=at_T83 HR0_4.out Ma p181 q181;have hw181_5:=hx181_5;have hw181_4:=hx181_4;have hw181_3:=hx181_3;have hw181_2:=hx181_2;have hw181_1:=hx181_1;have hw181_0:=hx181_0;(try rw [← Nbq18.out] at hx181_2);(try rw [← Nbq18.out] at hw181_2);cases e181;replace hx181_0:=rc_ HB.out hx181_0;replace hx181_1:=rc_ HB.out hx181_1;replace hx181_2:=rc_ HB.out hx181_2;replace hx181_3:=rc_ HB.out hx181_3;replace hx181_4:=rc_ HB.out hx181_4;replace hx181_5:=rc_ HB.out hx181_5;replace p181:=eq_true p181;replace q181:=eq_true q181;refine start_ (n:=9) (S:=fun w'=>w'.cell? ⟨Jb,0,none⟩=some (I L a0_0)∧w'.cell? ⟨Jb,1,none⟩=some (I L a0_1)∧w'.cell? ⟨Jb,2,none⟩=some (I L a0_2)∧w'.cell? ⟨Jb,3,none⟩=some (I L a0_3)∧w'.cell? ⟨Jb,4,none⟩=some (Y (some ad181) l0_4.length c0_4)∧w'.cell? (ad181.add ((Ma).toNat * 6))=some (I L ((rd_T83 l0_4 Ma).f0))∧w'.cell? ⟨(ad181.add ((Ma).toNat * 6)).block,(ad181.add ((Ma).toNat * 6)).off + 1,none⟩=some (I L ((rd_T83 l0_4 Ma).f1))∧w'.cell? ⟨(ad181.add ((Ma).toNat * 6)).block,(ad181.add ((Ma).toNat * 6)).off + 2,none⟩=some (.bool false)∧w'.cell? ⟨(ad181.add ((Ma).toNat * 6)).block,(ad181.add ((Ma).toNat * 6)).off + 3,none⟩=some (I L ((rd_T83 l0_4 Ma).f3.f0))∧w'.cell? ⟨(ad181.add ((Ma).toNat * 6)).block,(ad181.add ((Ma).toNat * 6)).off + 4,none⟩=some (I L ((rd_T83 l0_4 Ma).f3.f1))∧w'.cell? ⟨(ad181.add ((Ma).toNat * 6)).block,(ad181.add ((Ma).toNat * 6)).off + 5,none⟩=some (I L ((rd_T83 l0_4 Ma).f3.f2))) (ds:=[]) (bz 9 0) (by kernel_rfl) rfl (by kernel_rfl) (bk5_ Oa.out (re6_ HB.out hw181_0 hw181_1 hw181_2 hw181_3 hw181_4 hw181_5)) (fun hHeld=>?_);refine with_tabW spec_FairOwed.tab3 spec_FairOwed.bits3 (fun HT_ HW_=>?_);generalize wc.drew=w33 at Oa HB hx181_0 hx181_1 hx181_2 hx181_3 hx181_4 hx181_5 hHeld ⊢;refine pb_ 0 ?_;refine pb_ 3 ?_;refine tb_ 1 rfl rfl hHeld Z62 ?_;refine tb_ 2 rfl rfl hHeld Z62 ?_;refine join_ (σ:=Nat) 1 (bz 9 255) (fun s_=>[(19,I L Ma),(5,.pointer (some ⟨s_,0,none⟩)),(20,.pointer (some (ad181.add ((Ma).toNat * 6)))),(21,.agg #[I L ((rd_T83 l0_4 Ma).f0),I L ((rd_T83 l0_4 Ma).f1),.bool false,I L ((rd_T83 l0_4 Ma).f3.f0),I L ((rd_T83 l0_4 Ma).f3.f1),I L ((rd_T83 l0_4 Ma).f3.f2)])]) (fun s_ w'=>(w'.cell? ⟨Jb,0,none⟩=some (I L a0_0)∧w'.cell? ⟨Jb,1,none⟩=some (I L a0_1)∧w'.cell? ⟨Jb,2,none⟩=some (I L a0_2)∧w'.cell? ⟨Jb,3,none⟩=some (I L a0_3)∧w'.cell? ⟨Jb,4,none⟩=some (Y (some ad181) l0_4.length c0_4)∧w'.cell? (ad181.add ((Ma).toNat * 6))=some (I L ((rd_T83 l0_4 Ma).f0))∧w'.cell? ⟨(ad181.add ((Ma).toNat * 6)).block,(ad181.add ((Ma).toNat * 6)).off + 1,none⟩=some (I L ((rd_T83 l0_4 Ma).f1))∧w'.cell? ⟨(ad181.add ((Ma).toNat * 6)).block,(ad181.add ((Ma).toNat * 6)).off + 2,none⟩=some (.bool false)∧w'.cell? ⟨(ad181.add ((Ma).toNat * 6)).block,(ad181.add ((Ma).toNat * 6)).off + 3,none⟩=some (I L ((rd_T83 l0_4 Ma).f3.f0))∧w'.cell? ⟨(ad181.add ((Ma).toNat * 6)).block,(ad181.add ((Ma).toNat * 6)).off + 4,none⟩=some (I L ((rd_T83 l0_4 Ma).f3.f1))∧w'.cell? ⟨(ad181.add ((Ma).toNat * 6)).block,(ad181.add ((Ma).toNat * 6)).off + 5,none⟩=some (I L ((rd_T83 l0_4 Ma).f3.f2)))∧(w'.heap[Jb]?=some (.cells #[I L a0_0,I L a0_1,I L a0_2,I L a0_3,Y (some ad181) l0_4.length c0_4] 59 (0,0)))∧(w'.heap[s_]?=some (.cells #[I L 0,I L 0,.bool false,I L 0,I L 0,I L 0] 83 (0,0)))∧(w.heap.size≤s_)∧(w.heap.size≤s_)∧(Jb≠s_)∧(s_≠Jb)∧(Below w.heap.size w w')) ?_ ?_
       rotate_left
       ·intro hCont
        refine two_ (i := 4) (j := 7) (Ni := some 19) (Nj := some 5) (bz 9 31) (bz 9 143) rfl rfl rfl rfl (two_of HT_.out (by kernel_rfl)) (by decide) (by decide) (fun K hK => ?_) (fun K hK => ?_)
        ·skip
         refine goes_ Try.func68 (by kernel_rfl) rfl #[.agg #[I L a0_0,I L a0_1,I L a0_2,I L a0_3,Y (some ad181) l0_4.length c0_4],I L a1] (by rfl) rfl rfl Z20 ?_;with_reducible refine (spec_l18At.calls kj2 a0_0 a0_1 a0_2 a0_3 _ _ l0_4 a1 Ma _ ?side1 ?side2 A15.out).mono ?_
         (case side1 => exact pC_ (Kd.C_below HR0_4.out HB.out)); (case side2 => exact HC0_4.out); rintro e w34 ⟨rfl, hb⟩; refine ⟨_, rfl, ?_⟩
         have n_ := an_ (blk_below (pk_ Oa.out) hb) <| D (below_step (pB_ HB.out) hb)
         clear Oa HB;obtain ⟨Oa,HB⟩:=n_;refine hK.out _ _ (bk5_ Oa.out (re6_ HB.out hw181_0 hw181_1 hw181_2 hw181_3 hw181_4 hw181_5)) (fun hHeld=>?_);clear hK K;refine nx_ (N:=some 19) ?_;refine pb_ 5 ?_;refine tb_ 6 rfl rfl hHeld Z62 ?_;refine oa_ 7 5 9 255 HT_ (fun K hK=>?_);refine box_step ?hg (N:=5) ?hd (cs:=#[I L 0,I L 0,.bool false,I L 0,I L 0,I L 0]) (t:=83) ?hr ?_;(case hd=>rfl);(case hg=>rfl);(case hr=>first|(go_simp;done)|(go_simp;rfl));intro Ka hg w35 hbox hb
         have n_:=an_ (blk_below (pk_ Oa.out) hb)<|an_ (below_step (pB_ HB.out) hb)<|an_ (hbox)<|an_ (bg_ hg (pB_ HB.out):w.heap.size≤Ka)<|an_ (bg_ hg (pB_ HB.out):w.heap.size≤Ka)<|an_ (nl_ hg (pk_ Oa.out):Jb≠Ka)<|D (ng_ hg (pk_ Oa.out):Ka≠Jb)
         clear Oa HB;obtain ⟨Oa,HB,Xa,Ja,Mb,Ua,Kb⟩:=n_;clear hb hbox hg;refine hK.out _ _ (bk5_ Oa.out (re6_ HB.out hw181_0 hw181_1 hw181_2 hw181_3 hw181_4 hw181_5)) (fun hHeld=>?_);clear hK K;refine nx_ (N:=some 5) ?_;exact norm_ Z26 (hCont (Ka) _ ⟨hHeld,(pk_ Oa.out),(pk_ Xa.out),Ja.out,Mb.out,Ua.out,Kb.out,(pB_ HB.out)⟩)
        ·skip
         refine box_step ?hg (N:=5) ?hd (cs:=#[I L 0,I L 0,.bool false,I L 0,I L 0,I L 0]) (t:=83) ?hr ?_;(case hd=>rfl);(case hg=>rfl);(case hr=>first|(go_simp;done)|(go_simp;rfl));intro Ka hg w34 hbox hb
         have n_:=an_ (blk_below (pk_ Oa.out) hb)<|an_ (below_step (pB_ HB.out) hb)<|an_ (hbox)<|an_ (bg_ hg (pB_ HB.out):w.heap.size≤Ka)<|an_ (bg_ hg (pB_ HB.out):w.heap.size≤Ka)<|an_ (nl_ hg (pk_ Oa.out):Jb≠Ka)<|D (ng_ hg (pk_ Oa.out):Ka≠Jb)
         clear Oa HB;obtain ⟨Oa,HB,Xa,Ja,Mb,Ua,Kb⟩:=n_;clear hb hbox hg;refine hK.out _ _ (bk5_ Oa.out (re6_ HB.out hw181_0 hw181_1 hw181_2 hw181_3 hw181_4 hw181_5)) (fun hHeld=>?_);clear hK K;refine nx_ (N:=some 5) ?_;refine oa_ 4 19 9 159 HT_ (fun K hK=>?_);refine goes_ Try.func68 (by kernel_rfl) rfl #[.agg #[I L a0_0,I L a0_1,I L a0_2,I L a0_3,Y (some ad181) l0_4.length c0_4],I L a1] (by rfl) rfl rfl Z20 ?_;with_reducible refine (spec_l18At.calls kj2 a0_0 a0_1 a0_2 a0_3 _ _ l0_4 a1 Ma _ ?side1 ?side2 A15.out).mono ?_
         (case side1 => exact pC_ (Kd.C_below HR0_4.out HB.out)); (case side2 => exact HC0_4.out); rintro e w35 ⟨rfl, hb⟩; refine ⟨_, rfl, ?_⟩
         have n_ := an_ (blk_below (pk_ Oa.out) hb) <| an_ (blk_below (pk_ Xa.out) hb) <| D (below_step (pB_ HB.out) hb)
         clear Oa Xa HB;obtain ⟨Oa,Xa,HB⟩:=n_;refine hK.out _ _ (bk5_ Oa.out (re6_ HB.out hw181_0 hw181_1 hw181_2 hw181_3 hw181_4 hw181_5)) (fun hHeld=>?_);clear hK K;refine nx_ (N:=some 19) ?_;refine pb_ 5 ?_;refine tb_ 6 rfl rfl hHeld Z62 ?_;exact norm_ Z26 (hCont (Ka) _ ⟨hHeld,(pk_ Oa.out),(pk_ Xa.out),Ja.out,Mb.out,Ua.out,Kb.out,(pB_ HB.out)⟩)
       rintro Ka w36 ⟨hS_, h0_, h1_, h2_, h3_, h4_, h5_, h6_⟩
       have n_ := an_ (h0_) <| an_ (h1_) <| an_ (h2_) <| an_ (h3_) <| an_ (h4_) <| an_ (h5_) <| D (h6_)
       clear Oa HB h0_ h1_ h2_ h3_ h4_ h5_ h6_;obtain ⟨Oa,Xa,Ja,Mb,Ua,Kb,HB⟩:=n_;have hHeld:w36.cell? ⟨Jb,0,none⟩=some (I L a0_0)∧w36.cell? ⟨Jb,1,none⟩=some (I L a0_1)∧w36.cell? ⟨Jb,2,none⟩=some (I L a0_2)∧w36.cell? ⟨Jb,3,none⟩=some (I L a0_3)∧w36.cell? ⟨Jb,4,none⟩=some (Y (some ad181) l0_4.length c0_4)∧w36.cell? (ad181.add ((Ma).toNat * 6))=some (I L ((rd_T83 l0_4 Ma).f0))∧w36.cell? ⟨(ad181.add ((Ma).toNat * 6)).block,(ad181.add ((Ma).toNat * 6)).off + 1,none⟩=some (I L ((rd_T83 l0_4 Ma).f1))∧w36.cell? ⟨(ad181.add ((Ma).toNat * 6)).block,(ad181.add ((Ma).toNat * 6)).off + 2,none⟩=some (.bool false)∧w36.cell? ⟨(ad181.add ((Ma).toNat * 6)).block,(ad181.add ((Ma).toNat * 6)).off + 3,none⟩=some (I L ((rd_T83 l0_4 Ma).f3.f0))∧w36.cell? ⟨(ad181.add ((Ma).toNat * 6)).block,(ad181.add ((Ma).toNat * 6)).off + 4,none⟩=some (I L ((rd_T83 l0_4 Ma).f3.f1))∧w36.cell? ⟨(ad181.add ((Ma).toNat * 6)).block,(ad181.add ((Ma).toNat * 6)).off + 5,none⟩=some (I L ((rd_T83 l0_4 Ma).f3.f2)):=hS_;refine norm_ (a':=?_) ?_ ?_;rotate_left
       ·simp only [putAll, Act.put, List.setIfInBounds_toArray, List.set_cons_zero, List.set_cons_succ]
        rfl
       refine one_ (i:=8) (N:=none) (bz 9 511) rfl rfl (one_of HT_.out (by kernel_rfl)) (by decide) (fun K hK=>?_);have hs37:w36.cell? ⟨Ka,0,none⟩=some (I L 0):=bc_ Xa.out 0;have hfs37:=blk_frozen Xa.out 0;have hns37_0:=Ua.out;have hms37_0:=Kb.out;have hs38:w36.cell? ⟨Ka,1,none⟩=some (I L 0):=bc_ Xa.out 1;have hfs38:=blk_frozen Xa.out 1;have hns38_0:=Ua.out;have hms38_0:=Kb.out;have hs39:w36.cell? ⟨Ka,2,none⟩=some (.bool false):=bc_ Xa.out 2;have hfs39:=blk_frozen Xa.out 2;have hns39_0:=Ua.out;have hms39_0:=Kb.out;have hs40:w36.cell? ⟨Ka,3,none⟩=some (I L 0):=bc_ Xa.out 3;have hfs40:=blk_frozen Xa.out 3;have hns40_0:=Ua.out;have hms40_0:=Kb.out;have hs41:w36.cell? ⟨Ka,4,none⟩=some (I L 0):=bc_ Xa.out 4;have hfs41:=blk_frozen Xa.out 4;have hns41_0:=Ua.out;have hms41_0:=Kb.out;have hs42:w36.cell? ⟨Ka,5,none⟩=some (I L 0):=bc_ Xa.out 5;have hfs42:=blk_frozen Xa.out 5;have hns42_0:=Ua.out;have hms42_0:=Kb.out;refine skip_ (w1:=?_) (by rfl) rfl ?_ ?_;rotate_left
       ·go_simp
        rfl
       refine hK.out _ _ ⟨(cF_ Ua.out (hHeld.1)),(cF_ Ua.out (hHeld.2.1)),(cF_ Ua.out (hHeld.2.2.1)),(cF_ Ua.out (hHeld.2.2.2.1)),(cF_ Ua.out (hHeld.2.2.2.2.1)),(cF_ (g:=Ka) Z76 (hHeld.2.2.2.2.2.1)),(cF_ (g:=Ka) Z77 (hHeld.2.2.2.2.2.2.1)),(cF_ (g:=Ka) Z78 (hHeld.2.2.2.2.2.2.2.1)),(cF_ (g:=Ka) Z79 (hHeld.2.2.2.2.2.2.2.2.1)),(cF_ (g:=Ka) Z80 (hHeld.2.2.2.2.2.2.2.2.2.1)),(cF_ (g:=Ka) Z81 (hHeld.2.2.2.2.2.2.2.2.2.2))⟩ (fun hHeld=>?_);clear hK K;refine done_ (done_of HT_.out (by kernel_rfl)) ?_
       try go_wp2
       obtain ⟨w43,hq_⟩:∃ W_,W_=((((((w36.setCell ⟨Ka,0,none⟩ (I L ((rd_T83 l0_4 Ma).f0))).setCell ⟨Ka,1,none⟩ (I L ((rd_T83 l0_4 Ma).f1))).setCell ⟨Ka,2,none⟩ (.bool false)).setCell ⟨Ka,3,none⟩ (I L ((rd_T83 l0_4 Ma).f3.f0))).setCell ⟨Ka,4,none⟩ (I L ((rd_T83 l0_4 Ma).f3.f1))).setCell ⟨Ka,5,none⟩ (I L ((rd_T83 l0_4 Ma).f3.f2))):=⟨_,rfl⟩;have n0_:Aside0 (w43.heap[Jb]?=some (.cells #[I L a0_0,I L a0_1,I L a0_2,I L a0_3,Y (some ad181) l0_4.length c0_4] 59 (0,0))):=⟨by rw [hq_];exact pP_ Oa.out⟩;have n1_:Aside0 (w43.heap[Ka]?=some (.cells #[I L ((rd_T83 l0_4 Ma).f0),I L ((rd_T83 l0_4 Ma).f1),.bool false,I L ((rd_T83 l0_4 Ma).f3.f0),I L ((rd_T83 l0_4 Ma).f3.f1),I L ((rd_T83 l0_4 Ma).f3.f2)] 83 (0,0))):=⟨by rw [hq_];exact pP_ Xa.out⟩;have n2_:Aside0 (Below w.heap.size w w43):=⟨by rw [hq_];exact pB_ HB.out⟩;(try clear Oa);(try clear Xa);(try clear HB);(try rw [←hq_]);clear hq_;have Oa:=n0_;have Xa:=n1_;have HB:=n2_;clear n0_ n1_ n2_
       have n_ := an_ (blk_drew Oa.out) <| an_ (blk_drew Xa.out) <| D (below_drew1 HB.out)
       clear Oa Xa HB;obtain ⟨Oa,Xa,HB⟩:=n_;refine start_ (n:=13) (S:=fun w'=>w'.cell? ⟨Ka,0,none⟩=some (I L ((rd_T83 l0_4 Ma).f0))∧w'.cell? ⟨Ka,1,none⟩=some (I L ((rd_T83 l0_4 Ma).f1))∧w'.cell? ⟨Ka,2,none⟩=some (.bool false)∧w'.cell? ⟨Ka,3,none⟩=some (I L ((rd_T83 l0_4 Ma).f3.f0))∧w'.cell? ⟨Ka,4,none⟩=some (I L ((rd_T83 l0_4 Ma).f3.f1))∧w'.cell? ⟨Ka,5,none⟩=some (I L ((rd_T83 l0_4 Ma).f3.f2))∧w'.cell? ⟨Jb,0,none⟩=some (I L a0_0)∧w'.cell? ⟨Jb,1,none⟩=some (I L a0_1)∧w'.cell? ⟨Jb,2,none⟩=some (I L a0_2)∧w'.cell? ⟨Jb,3,none⟩=some (I L a0_3)∧w'.cell? ⟨Jb,4,none⟩=some (Y (some ad181) l0_4.length c0_4)) (ds:=[]) (bz 13 0) (by kernel_rfl) rfl (by kernel_rfl) (bk6_ Xa.out (be5_ Oa.out)) (fun hHeld=>?_);refine with_tabW spec_FairOwed.tab4 spec_FairOwed.bits4 (fun HT_ HW_=>?_);generalize w43.drew=w44 at Oa Xa HB hHeld ⊢;refine pb_ 0 ?_;refine tb_ 1 rfl rfl hHeld Z62 ?_;refine pb_ 2 ?_;refine pb_ 3 ?_;refine pb_ 5 ?_;refine pb_ 8 ?_;refine tb_ 4 rfl rfl hHeld Z62 ?_;refine tb_ 6 rfl rfl hHeld Z62 ?_;refine tb_ 9 rfl rfl hHeld Z62 ?_;refine oa_ 7 29 13 1023 HT_ (fun K hK=>?_);refine goes_ Try.func71 (by kernel_rfl) rfl #[.agg #[I L ((rd_T83 l0_4 Ma).f3.f0),I L ((rd_T83 l0_4 Ma).f3.f1),I L ((rd_T83 l0_4 Ma).f3.f2)],.agg #[I L a0_1,I L a0_2,I L a0_3]] (by rfl) rfl rfl Z20 ?_;with_reducible refine (spec_VecMost.calls ((rd_T83 l0_4 Ma).f3.f0) ((rd_T83 l0_4 Ma).f3.f1) ((rd_T83 l0_4 Ma).f3.f2) a0_1 a0_2 a0_3 Kh Mh Oh _ A32.out).mono ?_
       rintro e w45 ⟨rfl, hb⟩; refine ⟨_, rfl, ?_⟩
       have n_ := an_ (blk_below (pk_ Oa.out) hb) <| an_ (blk_below (pk_ Xa.out) hb) <| D (below_step (pB_ HB.out) hb)
       clear Oa Xa HB;obtain ⟨Oa,Xa,HB⟩:=n_;refine hK.out _ _ (bk6_ Xa.out (be5_ Oa.out)) (fun hHeld=>?_);clear hK K;refine nx_ (N:=some 29) ?_;refine pb_ 10 ?_;refine pb_ 11 ?_;refine pb_ 12 ?_;refine done_ (done_of HT_.out (by kernel_rfl)) ?_
       try go_wp2
       go_ret; exact ⟨er_, pB_ HB.out⟩
     ·rw [if_neg c17] at H
      exact absurd H (by simp)
    ·rw [if_neg c16] at H
     exact absurd H (by simp)

end Go.Proofs.Ytpkdkhhknmlpjaa.PFnTakenAdds
