-- by a program of this session's, over the kit's words
import Derived.Test.YtjfknflhajeglabPZFnExactTreeTenant
import Derived.Test.YtjfknflhajeglabPFnExactTreeTenantx0
import Derived.Test.YtjfknflhajeglabPFnExactTreeTenantx10
import Derived.Test.YtjfknflhajeglabPFnExactTreeTenantx11
namespace Go.Proofs.Ytjfknflhajeglab.PFnExactTreeTenant
open Go.RowKit Go.Proofs.YtjfknflhajeglabW.PrintWords Go.Proofs.YtjfknflhajeglabW.PrintLast Go.Proofs.YtjfknflhajeglabW.PrintMore Go.Proofs.YtjfknflhajeglabV Go.Proofs.Ytjfknflhajeglab.ZFnExactTreeTenant
open Go.Value renaming int → I, slice → Y
open Go.IntKind renaming i64 → L
open Aside0 renaming mk → D
open Option renaming bind_eq_some_iff → bs_
attribute [local go_sem] max2_int min2_int max_two min_two max_three min_three max_four min_four   -- for this text's walks alone
set_option linter.unusedVariables false
set_option linter.unusedSimpArgs false

/-! ### impl_FairOk: function 43 -/
mutual
def impl_FairOk.j0 : Nat → Bool → Int → Int → Int → Int → List (S51) → Option (Bool)
 | 0, _, _, _, _, _, _ => none
 | k + 1, x22, x366000, x366001, x366002, x366003, x366004 => if x22 = true then (some false) else (impl_FairOk.l0 k x366004 (x366004.length : Int) 0 x366000 x366001 x366002 x366003 x366004)
def impl_FairOk.l0 : Nat → List (S51) → Int → Int → Int → Int → Int → Int → List (S51) → Option (Bool)
 | 0, _, _, _, _, _, _, _, _ => none
 | k + 1,x24,x25,x26,x366000,x366001,x366002,x366003,x366004=>if x26 < x25 then (if 0≤x26 then (if x26 < (x24.length:Int) then ((impl_Fair_kidOk.f x366000 x366001 x366002 x366003 x366004 ((rd_T51 x24 x26).f0) ((rd_T51 x24 x26).f1) ((rd_T51 x24 x26).f2) ((rd_T51 x24 x26).f3.f0) ((rd_T51 x24 x26).f3.f1) ((rd_T51 x24 x26).f3.f2)).bind fun t370=>(if t370=true then (if x26 > 0 then (if 0≤(wrap64 (x26 - 1)) then (if (wrap64 (x26 - 1)) < (x366004.length:Int) then (if ((rd_T51 x366004 (wrap64 (x26 - 1))).f0) ≥ ((rd_T51 x24 x26).f0) then (some false) else (impl_FairOk.l0 k x24 x25 (wrap64 (x26 + 1)) x366000 x366001 x366002 x366003 x366004)) else (none)) else (none)) else (impl_FairOk.l0 k x24 x25 (wrap64 (x26 + 1)) x366000 x366001 x366002 x366003 x366004)) else (some false))) else (none)) else (none)) else (some true)
end
def impl_FairOk.f (k : Nat) (a0_0 a0_1 a0_2 a0_3 : Int) (l0_4 : List (S51)) : Option (Bool) := (impl_Narrow.f a0_1 a0_2 a0_3 a0_0).bind fun t366 => (if t366 = true then ((impl_VecTop.f a0_1 a0_2 a0_3).bind fun t367 => (if t367 > 100000000000 then (impl_FairOk.j0 k true a0_0 a0_1 a0_2 a0_3 l0_4) else (impl_FairOk.j0 k (decide ((l0_4.length : Int) > 48)) a0_0 a0_1 a0_2 a0_3 l0_4))) else (impl_FairOk.j0 k true a0_0 a0_1 a0_2 a0_3 l0_4))
def impl_FairOk.T6 : Bool × List (List Nat × List Nat) := (true, [([], []), ([], []), ([0, 1], [0, 1]), ([2], [2]), ([3, 2], [3]), ([4], [4]), ([5, 4], [4, 5]), ([6, 4, 4], [4, 6]), ([7], [7]), ([8, 7], [7, 8]), ([7], [7]), ([10, 7], [7, 10]), ([9, 11, 7], [7, 9, 11]), ([12, 7], [7, 12]), ([13, 7], [7, 13]), ([7], [7]), ([15, 7], [7, 15]), ([14, 16, 7], [7, 14, 16]), ([7, 17, 4], [4, 7, 17]), ([4, 18], [4, 18])])
def impl_FairOk.B6 : List Nat := [0, 0, 3, 7, 15, 31, 63, 127, 255, 511, 255, 1279, 4095, 8191, 16383, 255, 33023, 131071, 262143, 524287]
theorem impl_FairOk.tab6 : rtab .any (opsOf Try.f43 6) = impl_FairOk.T6 := by kernel_rfl
theorem impl_FairOk.bits6 : waitsOk impl_FairOk.T6.2 impl_FairOk.B6 = true := by kernel_rfl
set_option maxHeartbeats 8000000 in
set_option maxRecDepth 100000 in
theorem impl_FairOk.calls (k : Nat) (a0_0 a0_1 a0_2 a0_3 : Int) (A0_4 : Option Addr) (c0_4 : Nat) (l0_4 : List (S51)) (r : Bool) (w : World) (hr0_4 : Kd.C k51 w A0_4 l0_4.length l0_4) (hc0_4 : l0_4.length ≤ c0_4) (h : impl_FairOk.f k a0_0 a0_1 a0_2 a0_3 l0_4 = some r) :
  Calls Try.prog 43 #[.agg #[I L a0_0, I L a0_1, I L a0_2, I L a0_3, Y A0_4 l0_4.length c0_4]] w fun e w' => e = .returned (.bool r) ∧ Below w.heap.size w w' := by
 have hu34 := Try.underlying34
 have hu31 := Try.underlying31
 have hu51 := Try.underlying51
 have HR0_4 := D hr0_4
 have HC0_4 := D hc0_4
 clear hr0_4 hc0_4
 have HB := D (Below.refl w.heap.size w)
 have H:((impl_Narrow.f a0_1 a0_2 a0_3 a0_0).bind fun Ob=>(if Ob=true then ((impl_VecTop.f a0_1 a0_2 a0_3).bind fun Jb=>(if Jb > 100000000000 then (impl_FairOk.j0 k true a0_0 a0_1 a0_2 a0_3 l0_4) else (impl_FairOk.j0 k (decide ((l0_4.length:Int) > 48)) a0_0 a0_1 a0_2 a0_3 l0_4))) else (impl_FairOk.j0 k true a0_0 a0_1 a0_2 a0_3 l0_4)))=some r:=h
 clear h
 have HC2 := D H
 clear H
 go_enter Try.func43, Try.ntmps43
 go_upto_region 1 with (first|((with_reducible refine gate_dst (N:=1) rfl ?_);(try (refine gate_guard (by rfl) ?_;dsimp only));refine bx_ (N:=1) (cs:=#[I L a0_0,I L a0_1,I L a0_2,I L a0_3,Y A0_4 l0_4.length c0_4]) (t:=34) ?_;intro Ua hg w3 hbox hb;have n_:=an_ (below_step (pB_ HB.out) hb)<|an_ (hbox)<|an_ (bg_ hg (pB_ HB.out):w.heap.size≤Ua)<|D (bg_ hg (pB_ HB.out):w.heap.size≤Ua);clear HB;obtain ⟨HB,Ka,Jp,Kp⟩:=n_;clear hb hbox hg))
 (try simp only [Act.put, List.setIfInBounds_toArray, List.set_cons_zero, List.set_cons_succ])
 go_cut [22] (fun v22 wc=>∃ (kq:Nat) (Mb:Bool),v22=.bool Mb∧Aside0 (impl_FairOk.j0 kq Mb a0_0 a0_1 a0_2 a0_3 l0_4=some r)∧Aside0 (kq≤k)∧Aside0 (wc.heap[Ua]?=some (.cells #[I L a0_0,I L a0_1,I L a0_2,I L a0_3,(Y A0_4 l0_4.length c0_4)] 34 (0,0)))∧Aside0 (Below w.heap.size w wc))
 case first =>
  have H := HC2.out; clear HC2; obtain ⟨Ob, A40, H⟩ := bs_.mp H; (try dsimp only at H); have A4 := D A40; clear A40
  by_cases c5 : Ob = true
  ·subst c5
   rw [if_pos rfl] at H; obtain ⟨Jb, A60, H⟩ := bs_.mp H; (try dsimp only at H); have A6 := D A60; clear A60
   by_cases c7 : Jb > 100000000000
   ·rw [if_pos c7] at H
    have c7b0:decide (100000000000 < Jb)=true:=decide_eq_true c7;clear c7;refine rw_ c7b0 ?_;have H':=D H;clear H;have Ub:=cells5 Ka.out
    go_wp2_with (first|((with_reducible refine gate_callee (f:=62) rfl ?_);refine goesL_ (some 9) rfl rfl Try.func62 (by kernel_rfl) rfl #[.agg #[I L a0_1,I L a0_2,I L a0_3],I L a0_0] rfl Z21 ?_;(with_reducible refine (impl_Narrow.calls a0_1 a0_2 a0_3 a0_0 true _ A4.out).mono ?_);rintro e w9 ⟨rfl,hb⟩;refine ⟨_,rfl,?_⟩;have n_:=an_ (blk_below (pk_ Ka.out) hb)<|D (below_step (pB_ HB.out) hb);clear Ka HB;obtain ⟨Ka,HB⟩:=n_;(try clear hb);have Od:=cells5 Ka.out)|(go_at_call 63;(with_reducible refine (impl_VecTop.calls a0_1 a0_2 a0_3 Jb _ A6.out).mono ?_);rintro e w11 ⟨rfl,hb⟩;have n_:=an_ (blk_below (pk_ Ka.out) hb)<|D (below_step (pB_ HB.out) hb);clear Ka HB;obtain ⟨Ka,HB⟩:=n_;(try clear hb)))
    go_meet
    case rel => exact ⟨_, (true), Z53, H', ⟨by first | omega | exact Nat.le_refl _⟩, ⟨pk_ Ka.out⟩, ⟨pB_ HB.out⟩⟩
   ·rw [if_neg c7] at H
    have c7b0:decide (100000000000 < Jb)=false:=decide_eq_false c7;clear c7;refine rw_ c7b0 ?_;have H':=D H;clear H;have Kf:=cells5 Ka.out
    go_wp2_with (first|((with_reducible refine gate_callee (f:=62) rfl ?_);refine goesL_ (some 9) rfl rfl Try.func62 (by kernel_rfl) rfl #[.agg #[I L a0_1,I L a0_2,I L a0_3],I L a0_0] rfl Z21 ?_;(with_reducible refine (impl_Narrow.calls a0_1 a0_2 a0_3 a0_0 true _ A4.out).mono ?_);rintro e w13 ⟨rfl,hb⟩;refine ⟨_,rfl,?_⟩;have n_:=an_ (blk_below (pk_ Ka.out) hb)<|D (below_step (pB_ HB.out) hb);clear Ka HB;obtain ⟨Ka,HB⟩:=n_;(try clear hb);have Xg:=cells5 Ka.out)|(go_at_call 63;(with_reducible refine (impl_VecTop.calls a0_1 a0_2 a0_3 Jb _ A6.out).mono ?_);rintro e w15 ⟨rfl,hb⟩;have n_:=an_ (blk_below (pk_ Ka.out) hb)<|D (below_step (pB_ HB.out) hb);clear Ka HB;obtain ⟨Ka,HB⟩:=n_;(try clear hb);have Oi:=cells5 Ka.out))
    go_meet
    case rel => exact ⟨_, (decide ((l0_4.length : Int) > 48)), Z53, H', ⟨by first | omega | exact Nat.le_refl _⟩, ⟨pk_ Ka.out⟩, ⟨pB_ HB.out⟩⟩
  ·replace c5 := Bool.eq_false_iff.mpr c5
   subst c5; rw [if_neg (show ¬ (false = true) by decide)] at H; have H' := D H; clear H; obtain ⟨Kk, Mk, Ok, Uk, Xk, Jm, Km, Mm, Om, Um⟩ := cells5 Ka.out
   go_wp2_with (first|((with_reducible refine gate_callee (f:=62) rfl ?_);refine goesL_ (some 9) rfl rfl Try.func62 (by kernel_rfl) rfl #[.agg #[I L a0_1,I L a0_2,I L a0_3],I L a0_0] rfl Z21 ?_;(with_reducible refine (impl_Narrow.calls a0_1 a0_2 a0_3 a0_0 false _ A4.out).mono ?_);rintro e w18 ⟨rfl,hb⟩;refine ⟨_,rfl,?_⟩;have n_:=an_ (blk_below (pk_ Ka.out) hb)<|D (below_step (pB_ HB.out) hb);clear Ka HB;obtain ⟨Ka,HB⟩:=n_;(try clear hb)))
   go_meet
   case rel => exact ⟨_, (true), Z53, H', ⟨by first | omega | exact Nat.le_refl _⟩, ⟨pk_ Ka.out⟩, ⟨pB_ HB.out⟩⟩
 case rest =>
  clear HC2
  (try clear p2);(try clear c4);(try clear c5);(try clear c6);(try clear c7);(try clear c7b0);(try clear Od);(try clear Kf);(try clear Xg);(try clear Oi);(try clear Kk Mk Ok Uk Xk Jm Km Mm Om Um);(try clear Ub)
  obtain ⟨kq, Mb, rfl, HA, HJ1, Ka, HB⟩ := hcut
  cases kq with
  | zero => exact absurd HA.out (by simp [impl_FairOk.j0])
  | succ kj1 =>
   have H := HA.out; clear HA; simp only [impl_FairOk.j0] at H
   by_cases c19 : Mb = true
   ·subst c19
    rw [if_pos rfl] at H; obtain rfl := Option.some.inj H
    go_wp2
    go_ret; exact ⟨er_, pB_ HB.out⟩
   ·replace c19 := Bool.eq_false_iff.mpr c19
    subst c19; rw [if_neg (show ¬ (false = true) by decide)] at H; have H' := D H; clear H; obtain ⟨Kn, Mn, On, Un, Xn, Jo, Ko, Mo, Oo, Uo⟩ := cells5 Ka.out
    go_wp2
    go_loopg [26] kj1 (fun kq v26 w'=>∃ (Ja:Int),v26=I L Ja∧Aside0 (impl_FairOk.l0 kq l0_4 (l0_4.length:Int) Ja a0_0 a0_1 a0_2 a0_3 l0_4=some r)∧Aside0 (kq≤kj1)∧Aside0 (w'.heap[Ua]?=some (.cells #[I L a0_0,I L a0_1,I L a0_2,I L a0_3,(Y A0_4 l0_4.length c0_4)] 34 (0,0)))∧Aside0 (Below w.heap.size w w'))
    case atStart => exact ⟨(0), Z53, H', ⟨Nat.le_refl _⟩, ⟨pk_ Ka.out⟩, ⟨pB_ HB.out⟩⟩
    case round =>
     clear H'
     (try clear c1);(try clear p2);(try clear c4);(try clear c5);(try clear c6);(try clear c7);(try clear c7b0);(try clear c19);(try clear Od);(try clear Kf);(try clear Xg);(try clear Oi);(try clear Kk Mk Ok Uk Xk Jm Km Mm Om Um);(try clear Kn Mn On Un Xn Jo Ko Mo Oo Uo);(try clear Ub);(try clear p2)
     obtain ⟨Ja, rfl, HA, HK2, Ka, HB⟩ := hrel
     cases gk with
     | zero => exact absurd HA.out (by simp [impl_FairOk.l0])
     | succ k2 =>
      have H := HA.out; clear HA; simp only [impl_FairOk.l0] at H
      by_cases c21 : Ja < (l0_4.length : Int)
      ·rw [if_pos c21] at H
       have c21b0 : decide (Ja < (l0_4.length : Int)) = true := decide_eq_true c21; clear c21
       by_cases c22 : 0 ≤ Ja
       ·rw [if_pos c22] at H
        have c22b0 : decide (0 ≤ Ja) = true := decide_eq_true c22; clear c22
        by_cases c23 : Ja < (l0_4.length : Int)
        ·rw [if_pos c23] at H
         have c23b0:decide (Ja < (l0_4.length:Int))=true:=decide_eq_true c23;clear c23;obtain ⟨Xo,A240,H⟩:=bs_.mp H;(try dsimp only at H);have A24:=D A240;clear A240
         by_cases c25 : Xo = true
         ·subst c25
          rw [if_pos rfl] at H
          by_cases c26 : Ja > 0
          ·rw [if_pos c26] at H
           have c26b0 : decide (0 < Ja) = true := decide_eq_true c26; clear c26; obtain ⟨ji27, hji27⟩ : ∃ j_ : Int, (wrap64 (Ja - 1)) = j_ := ⟨_, rfl⟩
           replace H:(if 0≤(ji27) then (if (ji27) < (l0_4.length:Int) then (if ((rd_T51 l0_4 (ji27)).f0) ≥ ((rd_T51 l0_4 Ja).f0) then (some false) else (impl_FairOk.l0 k2 l0_4 (l0_4.length:Int) (wrap64 (Ja + 1)) a0_0 a0_1 a0_2 a0_3 l0_4)) else (none)) else (none))=some r:=by first|(rw [hji27] at H;exact H)|(simp only [hji27] at H ⊢;exact H)
           (try rw [hji27] at A24); have hji27w : (IntKind.i64.wrap (Ja - 1)) = ji27 := (i64_w _).trans hji27
           by_cases c28 : 0 ≤ (ji27)
           ·rw [if_pos c28] at H
            have c28b0 : decide (0 ≤ (ji27)) = true := decide_eq_true c28; clear c28
            by_cases c29 : (ji27) < (l0_4.length : Int)
            ·rw [if_pos c29] at H
             have c29b0:decide ((ji27) < (l0_4.length:Int))=true:=decide_eq_true c29;clear c29;have HU30:=D H;clear H;have p368:0≤(Ja:Int):=od_ Z52;have q368:Ja < (l0_4.length:Int):=od_ Z52;obtain ⟨ad368,e368,hx368_0,hx368_1,hx368_2,hx368_3,hx368_4,hx368_5⟩:=at_T51 HR0_4.out Ja p368 q368;cases e368;replace hx368_0:=rc_ HB.out hx368_0;replace hx368_1:=rc_ HB.out hx368_1;replace hx368_2:=rc_ HB.out hx368_2;replace hx368_3:=rc_ HB.out hx368_3;replace hx368_4:=rc_ HB.out hx368_4;replace hx368_5:=rc_ HB.out hx368_5;replace p368:=eq_true p368;replace q368:=eq_true q368
             try go_wp2_with (first|((with_reducible refine gate_dst (N:=4) rfl ?_);(try (refine gate_guard (by rfl) ?_;dsimp only));refine bx_ (N:=4) (cs:=#[I L 0,I L 0,.bool false,I L 0,I L 0,I L 0]) (t:=51) ?_;intro Ma hg w31 hbox hb;have n_:=an_ (blk_below (pk_ Ka.out) hb)<|an_ (below_step (pB_ HB.out) hb)<|an_ (hbox)<|an_ (bg_ hg (pB_ HB.out):w.heap.size≤Ma)<|an_ (bg_ hg (pB_ HB.out):w.heap.size≤Ma)<|an_ (nl_ hg (pk_ Ka.out):Ua≠Ma)<|D (by rw [hg];exact Nat.ne_of_gt (blk_lt (pk_ Ka.out)):Ma≠Ua);clear Ka HB;obtain ⟨Ka,HB,Oa,Xm,Jn,Xa,Kb⟩:=n_;clear hb hbox hg;(try have:=Kb.out);(try have:=Xa.out);have Mp:=cells6 Oa.out))
             obtain ⟨w34,hq_⟩:∃ W_,W_=((((((w31.setCell ⟨Ma,0,none⟩ (I L ((rd_T51 l0_4 Ja).f0))).setCell ⟨Ma,1,none⟩ (I L ((rd_T51 l0_4 Ja).f1))).setCell ⟨Ma,2,none⟩ (.bool ((rd_T51 l0_4 Ja).f2))).setCell ⟨Ma,3,none⟩ (I L ((rd_T51 l0_4 Ja).f3.f0))).setCell ⟨Ma,4,none⟩ (I L ((rd_T51 l0_4 Ja).f3.f1))).setCell ⟨Ma,5,none⟩ (I L ((rd_T51 l0_4 Ja).f3.f2))):=⟨_,rfl⟩;have n0_:Aside0 (w34.heap[Ua]?=some (.cells #[I L a0_0,I L a0_1,I L a0_2,I L a0_3,Y (some ad368) l0_4.length c0_4] 34 (0,0))):=⟨by rw [hq_];exact pP_ Ka.out⟩;have n1_:Aside0 (w34.heap[Ma]?=some (.cells #[I L ((rd_T51 l0_4 Ja).f0),I L ((rd_T51 l0_4 Ja).f1),.bool ((rd_T51 l0_4 Ja).f2),I L ((rd_T51 l0_4 Ja).f3.f0),I L ((rd_T51 l0_4 Ja).f3.f1),I L ((rd_T51 l0_4 Ja).f3.f2)] 51 (0,0))):=⟨by rw [hq_];exact pP_ Oa.out⟩;have n2_:Aside0 (Below w.heap.size w w34):=⟨by rw [hq_];exact pB_ HB.out⟩;(try clear Ka);(try clear Oa);(try clear HB);(try rw [←hq_]);clear hq_;have Ka:=n0_;have Oa:=n1_;have HB:=n2_;clear n0_ n1_ n2_
             have n_ := an_ (blk_drew Ka.out) <| an_ (blk_drew Oa.out) <| D (below_drew1 HB.out)
             clear Ka Oa HB;obtain ⟨Ka,Oa,HB⟩:=n_;have p371:0≤((ji27):Int):=od_ Z52;have q371:(ji27) < (l0_4.length:Int):=od_ Z52;obtain ⟨ad371,e371,hx371_0,hx371_1,hx371_2,hx371_3,hx371_4,hx371_5⟩:=at_T51 HR0_4.out (ji27) p371 q371;have hw371_5:=hx371_5;have hw371_4:=hx371_4;have hw371_3:=hx371_3;have hw371_2:=hx371_2;have hw371_1:=hx371_1;have hw371_0:=hx371_0;obtain rfl:ad368=ad371:=(by injection e371);replace hx371_0:=rc_ HB.out hx371_0;replace hx371_1:=rc_ HB.out hx371_1;replace hx371_2:=rc_ HB.out hx371_2;replace hx371_3:=rc_ HB.out hx371_3;replace hx371_4:=rc_ HB.out hx371_4;replace hx371_5:=rc_ HB.out hx371_5;replace p371:=eq_true p371;replace q371:=eq_true q371;refine start_ (n:=20) (S:=fun w'=>w'.cell? ⟨Ua,0,none⟩=some (I L a0_0)∧w'.cell? ⟨Ua,1,none⟩=some (I L a0_1)∧w'.cell? ⟨Ua,2,none⟩=some (I L a0_2)∧w'.cell? ⟨Ua,3,none⟩=some (I L a0_3)∧w'.cell? ⟨Ua,4,none⟩=some (Y (some ad368) l0_4.length c0_4)∧w'.cell? ⟨Ma,0,none⟩=some (I L ((rd_T51 l0_4 Ja).f0))∧w'.cell? ⟨Ma,1,none⟩=some (I L ((rd_T51 l0_4 Ja).f1))∧w'.cell? ⟨Ma,2,none⟩=some (.bool ((rd_T51 l0_4 Ja).f2))∧w'.cell? ⟨Ma,3,none⟩=some (I L ((rd_T51 l0_4 Ja).f3.f0))∧w'.cell? ⟨Ma,4,none⟩=some (I L ((rd_T51 l0_4 Ja).f3.f1))∧w'.cell? ⟨Ma,5,none⟩=some (I L ((rd_T51 l0_4 Ja).f3.f2))∧w'.cell? (ad368.add (((ji27)).toNat * 6))=some (I L ((rd_T51 l0_4 (ji27)).f0))∧w'.cell? ⟨(ad368.add (((ji27)).toNat * 6)).block,(ad368.add (((ji27)).toNat * 6)).off + 1,none⟩=some (I L ((rd_T51 l0_4 (ji27)).f1))∧w'.cell? ⟨(ad368.add (((ji27)).toNat * 6)).block,(ad368.add (((ji27)).toNat * 6)).off + 2,none⟩=some (.bool ((rd_T51 l0_4 (ji27)).f2))∧w'.cell? ⟨(ad368.add (((ji27)).toNat * 6)).block,(ad368.add (((ji27)).toNat * 6)).off + 3,none⟩=some (I L ((rd_T51 l0_4 (ji27)).f3.f0))∧w'.cell? ⟨(ad368.add (((ji27)).toNat * 6)).block,(ad368.add (((ji27)).toNat * 6)).off + 4,none⟩=some (I L ((rd_T51 l0_4 (ji27)).f3.f1))∧w'.cell? ⟨(ad368.add (((ji27)).toNat * 6)).block,(ad368.add (((ji27)).toNat * 6)).off + 5,none⟩=some (I L ((rd_T51 l0_4 (ji27)).f3.f2))) (ds:=[]) (bz 20 0) (by kernel_rfl) rfl (by kernel_rfl) (bk5_ Ka.out (bk6_ Oa.out (re6_ HB.out hw371_0 hw371_1 hw371_2 hw371_3 hw371_4 hw371_5))) (fun hHeld=>?_);refine with_tabW impl_FairOk.tab6 impl_FairOk.bits6 (fun HT_ HW_=>?_);generalize w34.drew=w35 at Ka Oa HB hx371_0 hx371_1 hx371_2 hx371_3 hx371_4 hx371_5 hHeld ⊢;refine tb_ 0 rfl rfl hHeld Z30 ?_;refine tb_ 1 rfl rfl hHeld Z30 ?_;refine oa_ 2 33 20 7 HT_ (fun K hK=>?_);refine goes_ Try.func64 (by kernel_rfl) rfl #[.agg #[I L a0_0,I L a0_1,I L a0_2,I L a0_3,Y (some ad368) l0_4.length c0_4],.agg #[I L ((rd_T51 l0_4 Ja).f0),I L ((rd_T51 l0_4 Ja).f1),.bool ((rd_T51 l0_4 Ja).f2),I L ((rd_T51 l0_4 Ja).f3.f0),I L ((rd_T51 l0_4 Ja).f3.f1),I L ((rd_T51 l0_4 Ja).f3.f2)]] (by rfl) rfl rfl Z21 ?_
             with_reducible refine (impl_Fair_kidOk.calls a0_0 a0_1 a0_2 a0_3 _ _ l0_4 ((rd_T51 l0_4 Ja).f0) ((rd_T51 l0_4 Ja).f1) ((rd_T51 l0_4 Ja).f2) ((rd_T51 l0_4 Ja).f3.f0) ((rd_T51 l0_4 Ja).f3.f1) ((rd_T51 l0_4 Ja).f3.f2) true _ ?side1 ?side2 A24.out).mono ?_
             (case side1 => exact pC_ (Kd.C_below HR0_4.out HB.out)); (case side2 => exact HC0_4.out); rintro e w36 ⟨rfl, hb⟩; refine ⟨_, rfl, ?_⟩
             have n_ := an_ (blk_below (pk_ Ka.out) hb) <| an_ (blk_below (pk_ Oa.out) hb) <| D (below_step (pB_ HB.out) hb)
             clear Ka Oa HB;obtain ⟨Ka,Oa,HB⟩:=n_;refine hK.out _ _ (bk5_ Ka.out (bk6_ Oa.out (re6_ HB.out hw371_0 hw371_1 hw371_2 hw371_3 hw371_4 hw371_5))) (fun hHeld=>?_);clear hK K;refine nx_ (N:=some 33) ?_;refine pb_ 3 ?_;refine pb_ 4 ?_;refine pb_ 5 ?_;refine pb_ 6 ?_;refine pb_ 7 ?_;refine pb_ 8 ?_;refine pb_ 10 ?_;refine pb_ 11 ?_;refine pb_ 15 ?_;refine tb_ 9 rfl rfl hHeld Z30 ?_;refine pb_ 12 ?_;refine pb_ 13 ?_;refine tb_ 14 rfl rfl hHeld Z30 ?_;refine tb_ 16 rfl rfl hHeld Z30 ?_;refine pb_ 17 ?_;refine pb_ 18 ?_;refine pb_ 19 ?_;refine done_ (done_of HT_.out (by kernel_rfl)) ?_
             go_upto_if 50 with (fail)
             have H := HU30.out; clear HU30
             by_cases c37 : ((rd_T51 l0_4 (ji27)).f0) ≥ ((rd_T51 l0_4 Ja).f0)
             ·rw [if_pos c37] at H
              have c37b0:decide (((rd_T51 l0_4 Ja).f0)≤((rd_T51 l0_4 (ji27)).f0))=true:=decide_eq_true c37;clear c37;refine rw_ c37b0 ?_;obtain rfl:=Option.some.inj H
              go_wp2
              go_ret;exact ⟨by first|rfl|(simp [errW_none,errW_some] <;> rfl)|(simp only [← hji27];first|rfl|(simp [errW_none,errW_some] <;> rfl))|(simp [*,errW_none,errW_some] <;> rfl),pB_ HB.out⟩
             ·rw [if_neg c37] at H
              have c37b0:decide (((rd_T51 l0_4 Ja).f0)≤((rd_T51 l0_4 (ji27)).f0))=false:=decide_eq_false c37;clear c37;refine rw_ c37b0 ?_;have H':=D H;clear H
              go_wp2
              go_roundg k2
              case measure => have := HJ1.out; have := HK2.out; omega
              case rel => exact ⟨(wrap64 (Ja + 1)), Z53, H', ⟨by have := HJ1.out; have := HK2.out; omega⟩, ⟨pk_ Ka.out⟩, ⟨pB_ HB.out⟩⟩
            ·rw [if_neg c29] at H
             exact absurd H (by simp)
           ·rw [if_neg c28] at H
            exact absurd H (by simp)
          ·rw [if_neg c26] at H
           have c26b0:decide (0 < Ja)=false:=decide_eq_false c26;clear c26;have H':=D H;clear H;have p368:0≤(Ja:Int):=od_ Z52;have q368:Ja < (l0_4.length:Int):=od_ Z52;obtain ⟨ad368,e368,hx368_0,hx368_1,hx368_2,hx368_3,hx368_4,hx368_5⟩:=at_T51 HR0_4.out Ja p368 q368;cases e368;replace hx368_0:=rc_ HB.out hx368_0;replace hx368_1:=rc_ HB.out hx368_1;replace hx368_2:=rc_ HB.out hx368_2;replace hx368_3:=rc_ HB.out hx368_3;replace hx368_4:=rc_ HB.out hx368_4;replace hx368_5:=rc_ HB.out hx368_5;replace p368:=eq_true p368;replace q368:=eq_true q368
           try go_wp2_with (first|((with_reducible refine gate_dst (N:=4) rfl ?_);(try (refine gate_guard (by rfl) ?_;dsimp only));refine bx_ (N:=4) (cs:=#[I L 0,I L 0,.bool false,I L 0,I L 0,I L 0]) (t:=51) ?_;intro Ma hg w38 hbox hb;have n_:=an_ (blk_below (pk_ Ka.out) hb)<|an_ (below_step (pB_ HB.out) hb)<|an_ (hbox)<|an_ (bg_ hg (pB_ HB.out):w.heap.size≤Ma)<|an_ (bg_ hg (pB_ HB.out):w.heap.size≤Ma)<|an_ (nl_ hg (pk_ Ka.out):Ua≠Ma)<|D (by rw [hg];exact Nat.ne_of_gt (blk_lt (pk_ Ka.out)):Ma≠Ua);clear Ka HB;obtain ⟨Ka,HB,Oa,Xm,Jn,Xa,Kb⟩:=n_;clear hb hbox hg;(try have:=Kb.out);(try have:=Xa.out);have Mr:=cells6 Oa.out))
           obtain ⟨w41,hq_⟩:∃ W_,W_=((((((w38.setCell ⟨Ma,0,none⟩ (I L ((rd_T51 l0_4 Ja).f0))).setCell ⟨Ma,1,none⟩ (I L ((rd_T51 l0_4 Ja).f1))).setCell ⟨Ma,2,none⟩ (.bool ((rd_T51 l0_4 Ja).f2))).setCell ⟨Ma,3,none⟩ (I L ((rd_T51 l0_4 Ja).f3.f0))).setCell ⟨Ma,4,none⟩ (I L ((rd_T51 l0_4 Ja).f3.f1))).setCell ⟨Ma,5,none⟩ (I L ((rd_T51 l0_4 Ja).f3.f2))):=⟨_,rfl⟩;have n0_:Aside0 (w41.heap[Ua]?=some (.cells #[I L a0_0,I L a0_1,I L a0_2,I L a0_3,Y (some ad368) l0_4.length c0_4] 34 (0,0))):=⟨by rw [hq_];exact pP_ Ka.out⟩;have n1_:Aside0 (w41.heap[Ma]?=some (.cells #[I L ((rd_T51 l0_4 Ja).f0),I L ((rd_T51 l0_4 Ja).f1),.bool ((rd_T51 l0_4 Ja).f2),I L ((rd_T51 l0_4 Ja).f3.f0),I L ((rd_T51 l0_4 Ja).f3.f1),I L ((rd_T51 l0_4 Ja).f3.f2)] 51 (0,0))):=⟨by rw [hq_];exact pP_ Oa.out⟩;have n2_:Aside0 (Below w.heap.size w w41):=⟨by rw [hq_];exact pB_ HB.out⟩;(try clear Ka);(try clear Oa);(try clear HB);(try rw [←hq_]);clear hq_;have Ka:=n0_;have Oa:=n1_;have HB:=n2_;clear n0_ n1_ n2_
           have n_ := an_ (blk_drew Ka.out) <| an_ (blk_drew Oa.out) <| D (below_drew1 HB.out)
           clear Ka Oa HB;obtain ⟨Ka,Oa,HB⟩:=n_;refine start_ (n:=20) (S:=fun w'=>w'.cell? ⟨Ua,0,none⟩=some (I L a0_0)∧w'.cell? ⟨Ua,1,none⟩=some (I L a0_1)∧w'.cell? ⟨Ua,2,none⟩=some (I L a0_2)∧w'.cell? ⟨Ua,3,none⟩=some (I L a0_3)∧w'.cell? ⟨Ua,4,none⟩=some (Y (some ad368) l0_4.length c0_4)∧w'.cell? ⟨Ma,0,none⟩=some (I L ((rd_T51 l0_4 Ja).f0))∧w'.cell? ⟨Ma,1,none⟩=some (I L ((rd_T51 l0_4 Ja).f1))∧w'.cell? ⟨Ma,2,none⟩=some (.bool ((rd_T51 l0_4 Ja).f2))∧w'.cell? ⟨Ma,3,none⟩=some (I L ((rd_T51 l0_4 Ja).f3.f0))∧w'.cell? ⟨Ma,4,none⟩=some (I L ((rd_T51 l0_4 Ja).f3.f1))∧w'.cell? ⟨Ma,5,none⟩=some (I L ((rd_T51 l0_4 Ja).f3.f2))) (ds:=[]) (bz 20 0) (by kernel_rfl) rfl (by kernel_rfl) (bk5_ Ka.out (be6_ Oa.out)) (fun hHeld=>?_);refine with_tabW impl_FairOk.tab6 impl_FairOk.bits6 (fun HT_ HW_=>?_);generalize w41.drew=w42 at Ka Oa HB hHeld ⊢;refine tb_ 0 rfl rfl hHeld Z48 ?_;refine tb_ 1 rfl rfl hHeld Z48 ?_;refine oa_ 2 33 20 7 HT_ (fun K hK=>?_);refine goes_ Try.func64 (by kernel_rfl) rfl #[.agg #[I L a0_0,I L a0_1,I L a0_2,I L a0_3,Y (some ad368) l0_4.length c0_4],.agg #[I L ((rd_T51 l0_4 Ja).f0),I L ((rd_T51 l0_4 Ja).f1),.bool ((rd_T51 l0_4 Ja).f2),I L ((rd_T51 l0_4 Ja).f3.f0),I L ((rd_T51 l0_4 Ja).f3.f1),I L ((rd_T51 l0_4 Ja).f3.f2)]] (by rfl) rfl rfl Z21 ?_;with_reducible refine (impl_Fair_kidOk.calls a0_0 a0_1 a0_2 a0_3 _ _ l0_4 ((rd_T51 l0_4 Ja).f0) ((rd_T51 l0_4 Ja).f1) ((rd_T51 l0_4 Ja).f2) ((rd_T51 l0_4 Ja).f3.f0) ((rd_T51 l0_4 Ja).f3.f1) ((rd_T51 l0_4 Ja).f3.f2) true _ ?side1 ?side2 A24.out).mono ?_
           (case side1 => exact pC_ (Kd.C_below HR0_4.out HB.out)); (case side2 => exact HC0_4.out); rintro e w43 ⟨rfl, hb⟩; refine ⟨_, rfl, ?_⟩
           have n_ := an_ (blk_below (pk_ Ka.out) hb) <| an_ (blk_below (pk_ Oa.out) hb) <| D (below_step (pB_ HB.out) hb)
           clear Ka Oa HB;obtain ⟨Ka,Oa,HB⟩:=n_;refine hK.out _ _ (bk5_ Ka.out (be6_ Oa.out)) (fun hHeld=>?_);clear hK K;refine nx_ (N:=some 33) ?_;refine pb_ 3 ?_;refine pb_ 4 ?_;refine pb_ 5 ?_;refine pb_ 6 ?_;refine pb_ 7 ?_;refine ob_ 8 ?_;refine ob_ 9 ?_;refine ob_ 10 ?_;refine ob_ 11 ?_;refine ob_ 12 ?_;refine ob_ 13 ?_;refine ob_ 14 ?_;refine ob_ 15 ?_;refine ob_ 16 ?_;refine ob_ 17 ?_;refine pb_ 18 ?_;refine pb_ 19 ?_;refine done_ (done_of HT_.out (by kernel_rfl)) ?_
           try go_wp2
           go_roundg k2
           case measure => have := HJ1.out; have := HK2.out; omega
           case rel => exact ⟨(wrap64 (Ja + 1)), Z53, H', ⟨by have := HJ1.out; have := HK2.out; omega⟩, ⟨pk_ Ka.out⟩, ⟨pB_ HB.out⟩⟩
         ·replace c25 := Bool.eq_false_iff.mpr c25
          subst c25;rw [if_neg (show ¬ (false=true) by decide)] at H;obtain rfl:=Option.some.inj H;have p368:0≤(Ja:Int):=od_ Z52;have q368:Ja < (l0_4.length:Int):=od_ Z52;obtain ⟨ad368,e368,hx368_0,hx368_1,hx368_2,hx368_3,hx368_4,hx368_5⟩:=at_T51 HR0_4.out Ja p368 q368;cases e368;replace hx368_0:=rc_ HB.out hx368_0;replace hx368_1:=rc_ HB.out hx368_1;replace hx368_2:=rc_ HB.out hx368_2;replace hx368_3:=rc_ HB.out hx368_3;replace hx368_4:=rc_ HB.out hx368_4;replace hx368_5:=rc_ HB.out hx368_5;replace p368:=eq_true p368;replace q368:=eq_true q368
          try go_wp2_with (first|((with_reducible refine gate_dst (N:=4) rfl ?_);(try (refine gate_guard (by rfl) ?_;dsimp only));refine bx_ (N:=4) (cs:=#[I L 0,I L 0,.bool false,I L 0,I L 0,I L 0]) (t:=51) ?_;intro Ma hg w44 hbox hb;have n_:=an_ (blk_below (pk_ Ka.out) hb)<|an_ (below_step (pB_ HB.out) hb)<|an_ (hbox)<|an_ (bg_ hg (pB_ HB.out):w.heap.size≤Ma)<|an_ (bg_ hg (pB_ HB.out):w.heap.size≤Ma)<|an_ (nl_ hg (pk_ Ka.out):Ua≠Ma)<|D (by rw [hg];exact Nat.ne_of_gt (blk_lt (pk_ Ka.out)):Ma≠Ua);clear Ka HB;obtain ⟨Ka,HB,Oa,Xm,Jn,Xa,Kb⟩:=n_;clear hb hbox hg;(try have:=Kb.out);(try have:=Xa.out);have Mu:=cells6 Oa.out))
          obtain ⟨w47,hq_⟩:∃ W_,W_=((((((w44.setCell ⟨Ma,0,none⟩ (I L ((rd_T51 l0_4 Ja).f0))).setCell ⟨Ma,1,none⟩ (I L ((rd_T51 l0_4 Ja).f1))).setCell ⟨Ma,2,none⟩ (.bool ((rd_T51 l0_4 Ja).f2))).setCell ⟨Ma,3,none⟩ (I L ((rd_T51 l0_4 Ja).f3.f0))).setCell ⟨Ma,4,none⟩ (I L ((rd_T51 l0_4 Ja).f3.f1))).setCell ⟨Ma,5,none⟩ (I L ((rd_T51 l0_4 Ja).f3.f2))):=⟨_,rfl⟩;have n0_:Aside0 (w47.heap[Ua]?=some (.cells #[I L a0_0,I L a0_1,I L a0_2,I L a0_3,Y (some ad368) l0_4.length c0_4] 34 (0,0))):=⟨by rw [hq_];exact pP_ Ka.out⟩;have n1_:Aside0 (w47.heap[Ma]?=some (.cells #[I L ((rd_T51 l0_4 Ja).f0),I L ((rd_T51 l0_4 Ja).f1),.bool ((rd_T51 l0_4 Ja).f2),I L ((rd_T51 l0_4 Ja).f3.f0),I L ((rd_T51 l0_4 Ja).f3.f1),I L ((rd_T51 l0_4 Ja).f3.f2)] 51 (0,0))):=⟨by rw [hq_];exact pP_ Oa.out⟩;have n2_:Aside0 (Below w.heap.size w w47):=⟨by rw [hq_];exact pB_ HB.out⟩;(try clear Ka);(try clear Oa);(try clear HB);(try rw [←hq_]);clear hq_;have Ka:=n0_;have Oa:=n1_;have HB:=n2_;clear n0_ n1_ n2_
          have n_ := an_ (blk_drew Ka.out) <| an_ (blk_drew Oa.out) <| D (below_drew1 HB.out)
          clear Ka Oa HB;obtain ⟨Ka,Oa,HB⟩:=n_;refine start_ (n:=20) (S:=fun w'=>w'.cell? ⟨Ua,0,none⟩=some (I L a0_0)∧w'.cell? ⟨Ua,1,none⟩=some (I L a0_1)∧w'.cell? ⟨Ua,2,none⟩=some (I L a0_2)∧w'.cell? ⟨Ua,3,none⟩=some (I L a0_3)∧w'.cell? ⟨Ua,4,none⟩=some (Y (some ad368) l0_4.length c0_4)∧w'.cell? ⟨Ma,0,none⟩=some (I L ((rd_T51 l0_4 Ja).f0))∧w'.cell? ⟨Ma,1,none⟩=some (I L ((rd_T51 l0_4 Ja).f1))∧w'.cell? ⟨Ma,2,none⟩=some (.bool ((rd_T51 l0_4 Ja).f2))∧w'.cell? ⟨Ma,3,none⟩=some (I L ((rd_T51 l0_4 Ja).f3.f0))∧w'.cell? ⟨Ma,4,none⟩=some (I L ((rd_T51 l0_4 Ja).f3.f1))∧w'.cell? ⟨Ma,5,none⟩=some (I L ((rd_T51 l0_4 Ja).f3.f2))) (ds:=[]) (bz 20 0) (by kernel_rfl) rfl (by kernel_rfl) (bk5_ Ka.out (be6_ Oa.out)) (fun hHeld=>?_);refine with_tabW impl_FairOk.tab6 impl_FairOk.bits6 (fun HT_ HW_=>?_);generalize w47.drew=w48 at Ka Oa HB hHeld ⊢;refine tb_ 0 rfl rfl hHeld Z48 ?_;refine tb_ 1 rfl rfl hHeld Z48 ?_;refine oa_ 2 33 20 7 HT_ (fun K hK=>?_);refine goes_ Try.func64 (by kernel_rfl) rfl #[.agg #[I L a0_0,I L a0_1,I L a0_2,I L a0_3,Y (some ad368) l0_4.length c0_4],.agg #[I L ((rd_T51 l0_4 Ja).f0),I L ((rd_T51 l0_4 Ja).f1),.bool ((rd_T51 l0_4 Ja).f2),I L ((rd_T51 l0_4 Ja).f3.f0),I L ((rd_T51 l0_4 Ja).f3.f1),I L ((rd_T51 l0_4 Ja).f3.f2)]] (by rfl) rfl rfl Z21 ?_;with_reducible refine (impl_Fair_kidOk.calls a0_0 a0_1 a0_2 a0_3 _ _ l0_4 ((rd_T51 l0_4 Ja).f0) ((rd_T51 l0_4 Ja).f1) ((rd_T51 l0_4 Ja).f2) ((rd_T51 l0_4 Ja).f3.f0) ((rd_T51 l0_4 Ja).f3.f1) ((rd_T51 l0_4 Ja).f3.f2) false _ ?side1 ?side2 A24.out).mono ?_
          (case side1 => exact pC_ (Kd.C_below HR0_4.out HB.out)); (case side2 => exact HC0_4.out); rintro e w49 ⟨rfl, hb⟩; refine ⟨_, rfl, ?_⟩
          have n_ := an_ (blk_below (pk_ Ka.out) hb) <| an_ (blk_below (pk_ Oa.out) hb) <| D (below_step (pB_ HB.out) hb)
          clear Ka Oa HB;obtain ⟨Ka,Oa,HB⟩:=n_;refine hK.out _ _ (bk5_ Ka.out (be6_ Oa.out)) (fun hHeld=>?_);clear hK K;refine nx_ (N:=some 33) ?_;refine pb_ 3 ?_;refine pb_ 4 ?_;refine ob_ 5 ?_;refine ob_ 6 ?_;refine ob_ 7 ?_;refine ob_ 8 ?_;refine ob_ 9 ?_;refine ob_ 10 ?_;refine ob_ 11 ?_;refine ob_ 12 ?_;refine ob_ 13 ?_;refine ob_ 14 ?_;refine ob_ 15 ?_;refine ob_ 16 ?_;refine ob_ 17 ?_;refine ob_ 18 ?_;refine pb_ 19 ?_;refine done_ (done_of HT_.out (by kernel_rfl)) ?_
          try go_wp2
          go_ret; exact ⟨er_, pB_ HB.out⟩
        ·rw [if_neg c23] at H
         exact absurd H (by simp)
       ·rw [if_neg c22] at H
        exact absurd H (by simp)
      ·rw [if_neg c21] at H
       have c21b0 : decide (Ja < (l0_4.length : Int)) = false := decide_eq_false c21; clear c21; obtain rfl := Option.some.inj H
       go_wp2
       go_ret; exact ⟨er_, pB_ HB.out⟩

end Go.Proofs.Ytjfknflhajeglab.PFnExactTreeTenant
