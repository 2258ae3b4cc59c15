-- by a program of this session's, over the kit's words
import Derived.Test.YtpkdkhhknmlpjaaPZFnTakenAdds
import Derived.Test.YtpkdkhhknmlpjaaPFnTakenAddsx0
import Derived.Test.YtpkdkhhknmlpjaaPFnTakenAddsx2
import Derived.Test.YtpkdkhhknmlpjaaPFnTakenAddsx8
namespace Go.Proofs.Ytpkdkhhknmlpjaa.PFnTakenAdds
open Go.RowKit Go.Proofs.YtpkdkhhknmlpjaaW.PrintWords Go.Proofs.YtpkdkhhknmlpjaaW.PrintLast Go.Proofs.YtpkdkhhknmlpjaaW.PrintMore Go.Proofs.YtpkdkhhknmlpjaaV Go.Proofs.Ytpkdkhhknmlpjaa.ZFnTakenAdds
open Go.Value renaming int → I, slice → Y
open Go.IntKind renaming i64 → L
open Aside0 renaming mk → D
open Option renaming bind_eq_some_iff → bs_
attribute [local go_sem] max2_int min2_int max_two min_two max_three min_three max_four min_four   -- for this text's walks alone
set_option linter.unusedVariables false
set_option linter.unusedSimpArgs false

/-! ### spec_Finish: function 72 -/
mutual
def spec_Finish.j0 : Nat → Int → Bool → Int → Int → Int → Int → Int → Int → Option (Int × Int × Int × Bool)
 | 0, _, _, _, _, _, _, _, _ => none
 | k + 1,x2,x23,x258000,x258001,x258002,x259000,x259001,x259002=>if x23=true then (some (0,0,0,false)) else ((spec_l13List.f x258000 x258001 x258002).bind fun t263=>((spec_l13List.f x259000 x259001 x259002).bind fun t266=>(spec_Finish.l0 k x2 t263 t266 0)))
def spec_Finish.l0 : Nat → Int → List Int → List Int → Int → Option (Int × Int × Int × Bool)
 | 0, _, _, _, _ => none
 | k + 1,x2,x8,x9,x10=>if x10 < 3 then (if 0≤x10 then (if x10 < (x8.length:Int) then (if x10 < (x9.length:Int) then ((spec_Stride.f x2).bind fun t271=>(spec_Finish.l0 k x2 (x8.set (x10:Int).toNat (wrap64 ((rd x8 x10) + (wrap64 ((rd x9 x10) * t271))))) x9 (wrap64 (x10 + 1)))) else (none)) else (none)) else (none)) else ((spec_l13Of.f x8).bind fun bt273=>((spec_TagOk.f bt273.1 bt273.2.1 bt273.2.2).bind fun t276=>(if t276=true then ((spec_l13Of.f x8).bind fun bt277=>(some (bt277.1,bt277.2.1,bt277.2.2,true))) else (some (0,0,0,false)))))
end
def spec_Finish.f (k : Nat) (a0_0 a0_1 a0_2 a1_0 a1_1 a1_2 a2 : Int) : Option (Int × Int × Int × Bool) := (spec_TagOk.f a0_0 a0_1 a0_2).bind fun t260 => (if t260 = true then ((spec_ChargeOk.f a1_0 a1_1 a1_2).bind fun t261 => (if t261 = true then ((spec_Stride.f a2).bind fun t262 => (spec_Finish.j0 k a2 (t262 == 0) a0_0 a0_1 a0_2 a1_0 a1_1 a1_2)) else (spec_Finish.j0 k a2 true a0_0 a0_1 a0_2 a1_0 a1_1 a1_2))) else (spec_Finish.j0 k a2 true a0_0 a0_1 a0_2 a1_0 a1_1 a1_2))
def spec_Finish.T8 : Bool × List (List Nat × List Nat) := (true, [([], []), ([], []), ([], []), ([], []), ([2, 3], [2, 3]), ([4], [4]), ([], []), ([], []), ([6, 7], [6, 7]), ([8], [8]), ([], []), ([10], [10]), ([9, 11], [9, 11]), ([5, 12], [5, 12]), ([0, 1, 0, 1, 2, 3, 4, 5, 6, 7, 8, 9, 10, 11, 12, 13], [0, 1]), ([14, 13, 11, 0, 1, 2, 3, 4, 5, 6, 7, 8, 9, 10, 11, 12, 13], [13, 14])])
def spec_Finish.B8 : List Nat := [0, 0, 0, 0, 12, 28, 0, 0, 192, 448, 0, 1024, 4032, 8188, 16383, 32767]
theorem spec_Finish.tab8 : rtab .any (opsOf Try.f72 8) = spec_Finish.T8 := by kernel_rfl
theorem spec_Finish.bits8 : waitsOk spec_Finish.T8.2 spec_Finish.B8 = true := by kernel_rfl
set_option maxHeartbeats 8000000 in
set_option maxRecDepth 100000 in
theorem spec_Finish.calls (k : Nat) (a0_0 a0_1 a0_2 a1_0 a1_1 a1_2 a2 r1 r2 r3 : Int) (r4 : Bool) (w : World) (h : spec_Finish.f k a0_0 a0_1 a0_2 a1_0 a1_1 a1_2 a2 = some (r1, r2, r3, r4)) :
  Calls Try.prog 72 #[.agg #[I L a0_0,I L a0_1,I L a0_2],.agg #[I L a1_0,I L a1_1,I L a1_2],I L a2] w fun e w'=>e=.returned (.tuple #[.agg #[I L r1,I L r2,I L r3],.bool r4])∧Below w.heap.size w w':=by
 have hu29 := Try.underlying29
 have HB := D (Below.refl w.heap.size w)
 have H:((spec_TagOk.f a0_0 a0_1 a0_2).bind fun Je=>(if Je=true then ((spec_ChargeOk.f a1_0 a1_1 a1_2).bind fun Ke=>(if Ke=true then ((spec_Stride.f a2).bind fun Oc=>(spec_Finish.j0 k a2 (Oc == 0) a0_0 a0_1 a0_2 a1_0 a1_1 a1_2)) else (spec_Finish.j0 k a2 true a0_0 a0_1 a0_2 a1_0 a1_1 a1_2))) else (spec_Finish.j0 k a2 true a0_0 a0_1 a0_2 a1_0 a1_1 a1_2)))=some (r1,r2,r3,r4):=h
 clear h
 have HC4 := D H
 clear H
 go_enter Try.func72, Try.ntmps72
 go_upto_region 1 with (first|((with_reducible refine gate_dst (N:=3) rfl ?_);refine bx_ (N:=3) (cs:=#[I L a0_0,I L a0_1,I L a0_2]) (t:=29) ?_;intro Ob hg w5 hbox hb;have n_:=an_ (below_step (pB_ HB.out) hb)<|an_ (hbox)<|an_ (bg_ hg (pB_ HB.out):w.heap.size≤Ob)<|D (bg_ hg (pB_ HB.out):w.heap.size≤Ob);clear HB;obtain ⟨HB,Ka,Mq,Jm⟩:=n_;clear hb hbox hg)|((with_reducible refine gate_dst (N:=4) rfl ?_);refine bx_ (N:=4) (cs:=#[I L a1_0,I L a1_1,I L a1_2]) (t:=29) ?_;intro Jb hg w6 hbox hb;have n_:=an_ (blk_below (pk_ Ka.out) hb)<|an_ (below_step (pB_ HB.out) hb)<|an_ (hbox)<|an_ (bg_ hg (pB_ HB.out):w.heap.size≤Jb)<|an_ (bg_ hg (pB_ HB.out):w.heap.size≤Jb)<|an_ (nl_ hg (pk_ Ka.out):Ob≠Jb)<|D (by rw [hg];exact Nat.ne_of_gt (blk_lt (pk_ Ka.out)):Jb≠Ob);clear Ka HB;obtain ⟨Ka,HB,Ja,Oq,Km,Uc,Xc⟩:=n_;clear hb hbox hg)|((with_reducible refine gate_dst (N:=6) rfl ?_);refine bx_ (N:=6) (cs:=#[I L 0,I L 0,I L 0]) (t:=29) ?_;intro Kb hg w7 hbox hb;have n_:=an_ (blk_below (pk_ Ka.out) hb)<|an_ (blk_below (pk_ Ja.out) hb)<|an_ (below_step (pB_ HB.out) hb)<|an_ (hbox)<|an_ (bg_ hg (pB_ HB.out):w.heap.size≤Kb)<|an_ (bg_ hg (pB_ HB.out):w.heap.size≤Kb)<|an_ (nl_ hg (pk_ Ka.out):Ob≠Kb)<|an_ (ng_ hg (pk_ Ka.out):Kb≠Ob)<|an_ (nl_ hg (pk_ Ja.out):Jb≠Kb)<|D (by rw [hg];exact Nat.ne_of_gt (blk_lt (pk_ Ja.out)):Kb≠Jb);clear Ka Ja HB;obtain ⟨Ka,Ja,HB,Ma,Uq,Mm,Ub,Xb,Jc,Kc⟩:=n_;clear hb hbox hg))
 (try simp only [Act.put, List.setIfInBounds_toArray, List.set_cons_zero, List.set_cons_succ])
 go_cut [23] (fun v23 wc=>∃ (kq:Nat) (Jd:Bool),v23=.bool Jd∧Aside0 (spec_Finish.j0 kq a2 Jd a0_0 a0_1 a0_2 a1_0 a1_1 a1_2=some (r1,r2,r3,r4))∧Aside0 (kq≤k)∧Aside0 (wc.heap[Ob]?=some (.cells #[I L a0_0,I L a0_1,I L a0_2] 29 (0,0)))∧Aside0 (wc.heap[Jb]?=some (.cells #[I L a1_0,I L a1_1,I L a1_2] 29 (0,0)))∧Aside0 (wc.heap[Kb]?=some (.cells #[I L 0,I L 0,I L 0] 29 (0,0)))∧Aside0 (Below w.heap.size w wc))
 case first =>
  have H := HC4.out; clear HC4; obtain ⟨Je, A80, H⟩ := bs_.mp H; (try dsimp only at H); have A8 := D A80; clear A80
  by_cases c9 : Je = true
  ·subst c9
   rw [if_pos rfl] at H; obtain ⟨Ke, A100, H⟩ := bs_.mp H; (try dsimp only at H); have A10 := D A100; clear A100
   by_cases c11 : Ke = true
   ·subst c11
    rw [if_pos rfl] at H;obtain ⟨Oc,A120,H⟩:=bs_.mp H;(try dsimp only at H);have A12:=D A120;clear A120;have H':=D H;clear H;(try have:=Uc.out);(try have:=Xc.out);(try have:=Ub.out);(try have:=Xb.out);have Jf:=cells3 Ka.out
    go_wp2_with (first|((with_reducible refine gate_callee (f:=80) rfl ?_);refine goesL_ (some 12) rfl rfl Try.func80 (by kernel_rfl) rfl #[.agg #[I L a0_0,I L a0_1,I L a0_2]] rfl Z20 ?_;(with_reducible refine (spec_TagOk.calls a0_0 a0_1 a0_2 true _ A8.out).mono ?_);rintro e w16 ⟨rfl,hb⟩;refine ⟨_,rfl,?_⟩;have n_:=an_ (blk_below (pk_ Ka.out) hb)<|an_ (blk_below (pk_ Ja.out) hb)<|an_ (blk_below (pk_ Ma.out) hb)<|D (below_step (pB_ HB.out) hb);clear Ka Ja Ma HB;obtain ⟨Ka,Ja,Ma,HB⟩:=n_;(try clear hb);(try have:=Jc.out);(try have:=Kc.out);have Jg:=cells3 Ja.out)|(go_at_call 19;(with_reducible refine (spec_ChargeOk.calls a1_0 a1_1 a1_2 true _ A10.out).mono ?_);rintro e w19 ⟨rfl,hb⟩;have n_:=an_ (blk_below (pk_ Ka.out) hb)<|an_ (blk_below (pk_ Ja.out) hb)<|an_ (blk_below (pk_ Ma.out) hb)<|D (below_step (pB_ HB.out) hb);clear Ka Ja Ma HB;obtain ⟨Ka,Ja,Ma,HB⟩:=n_;(try clear hb))|(go_at_call 20;(with_reducible refine (spec_Stride.calls a2 Oc _ A12.out).mono ?_);rintro e w' ⟨rfl,⟨nd,rfl⟩⟩))
    go_meet
    case rel => exact ⟨_, ((Oc == 0)), Z69, H', ⟨by first | omega | exact Nat.le_refl _⟩, ⟨pk_ Ka.out⟩, ⟨pk_ Ja.out⟩, ⟨pk_ Ma.out⟩, ⟨pB_ HB.out⟩⟩
   ·replace c11 := Bool.eq_false_iff.mpr c11
    subst c11;rw [if_neg (show ¬ (false=true) by decide)] at H;have H':=D H;clear H;(try have:=Uc.out);(try have:=Xc.out);(try have:=Ub.out);(try have:=Xb.out);have Jh:=cells3 Ka.out
    go_wp2_with (first|((with_reducible refine gate_callee (f:=80) rfl ?_);refine goesL_ (some 12) rfl rfl Try.func80 (by kernel_rfl) rfl #[.agg #[I L a0_0,I L a0_1,I L a0_2]] rfl Z20 ?_;(with_reducible refine (spec_TagOk.calls a0_0 a0_1 a0_2 true _ A8.out).mono ?_);rintro e w23 ⟨rfl,hb⟩;refine ⟨_,rfl,?_⟩;have n_:=an_ (blk_below (pk_ Ka.out) hb)<|an_ (blk_below (pk_ Ja.out) hb)<|an_ (blk_below (pk_ Ma.out) hb)<|D (below_step (pB_ HB.out) hb);clear Ka Ja Ma HB;obtain ⟨Ka,Ja,Ma,HB⟩:=n_;(try clear hb);(try have:=Jc.out);(try have:=Kc.out);have Ji:=cells3 Ja.out)|(go_at_call 19;(with_reducible refine (spec_ChargeOk.calls a1_0 a1_1 a1_2 false _ A10.out).mono ?_);rintro e w26 ⟨rfl,hb⟩;have n_:=an_ (blk_below (pk_ Ka.out) hb)<|an_ (blk_below (pk_ Ja.out) hb)<|an_ (blk_below (pk_ Ma.out) hb)<|D (below_step (pB_ HB.out) hb);clear Ka Ja Ma HB;obtain ⟨Ka,Ja,Ma,HB⟩:=n_;(try clear hb)))
    go_meet
    case rel => exact ⟨_, (true), Z69, H', ⟨by first | omega | exact Nat.le_refl _⟩, ⟨pk_ Ka.out⟩, ⟨pk_ Ja.out⟩, ⟨pk_ Ma.out⟩, ⟨pB_ HB.out⟩⟩
  ·replace c9 := Bool.eq_false_iff.mpr c9
   subst c9;rw [if_neg (show ¬ (false=true) by decide)] at H;have H':=D H;clear H;(try have:=Uc.out);(try have:=Xc.out);(try have:=Ub.out);(try have:=Xb.out);have Jj:=cells3 Ka.out
   go_wp2_with (first|((with_reducible refine gate_callee (f:=80) rfl ?_);refine goesL_ (some 12) rfl rfl Try.func80 (by kernel_rfl) rfl #[.agg #[I L a0_0,I L a0_1,I L a0_2]] rfl Z20 ?_;(with_reducible refine (spec_TagOk.calls a0_0 a0_1 a0_2 false _ A8.out).mono ?_);rintro e w30 ⟨rfl,hb⟩;refine ⟨_,rfl,?_⟩;have n_:=an_ (blk_below (pk_ Ka.out) hb)<|an_ (blk_below (pk_ Ja.out) hb)<|an_ (blk_below (pk_ Ma.out) hb)<|D (below_step (pB_ HB.out) hb);clear Ka Ja Ma HB;obtain ⟨Ka,Ja,Ma,HB⟩:=n_;(try clear hb)))
   go_meet
   case rel => exact ⟨_, (true), Z69, H', ⟨by first | omega | exact Nat.le_refl _⟩, ⟨pk_ Ka.out⟩, ⟨pk_ Ja.out⟩, ⟨pk_ Ma.out⟩, ⟨pB_ HB.out⟩⟩
 case rest =>
  clear HC4
  (try clear c1);(try clear c2);(try clear p2);(try clear c7);(try clear c8);(try clear c9);(try clear c11);(try clear c13);(try clear c14);(try clear c17);(try clear c20);(try clear c21);(try clear c24);(try clear c27);(try clear c28);(try clear Jf);(try clear Jg);(try clear Jh);(try clear Ji);(try clear Jj)
  obtain ⟨kq, Jd, rfl, HA, HJ3, Ka, Ja, Ma, HB⟩ := hcut
  cases kq with
  | zero => exact absurd HA.out (by simp [spec_Finish.j0])
  | succ kj3 =>
   have H := HA.out; clear HA; simp only [spec_Finish.j0] at H
   by_cases c31 : Jd = true
   ·subst c31
    rw [if_pos rfl] at H;simp only [Option.some.injEq,Prod.mk.injEq] at H;obtain ⟨rfl,rfl,rfl,rfl⟩:=H;(try have:=Xb.out);(try have:=Ub.out);(try have:=Kc.out);(try have:=Jc.out);have Om:=cells3 Ma.out
    go_wp2
    refine bodyPost_ret (results_ct rfl _ _ Kb 29 #[I L 0,I L 0,I L 0] (0,0) _ rfl Z16 Try.underlying29 rfl (by kernel_rfl)) rfl ?_;exact ⟨er_,pB_ HB.out⟩
   ·replace c31 := Bool.eq_false_iff.mpr c31
    subst c31;rw [if_neg (show ¬ (false=true) by decide)] at H;obtain ⟨Jk,A350,H⟩:=bs_.mp H;(try dsimp only at H);have A35:=D A350;clear A350;obtain ⟨Mb,A360,H⟩:=bs_.mp H;(try dsimp only at H);have A36:=D A360;clear A360;have H':=D H;clear H;(try have:=Uc.out);(try have:=Xc.out);(try have:=Ub.out);(try have:=Xb.out);have On:=cells3 Ka.out
    go_wp2_with (first|((with_reducible refine gate_callee (f:=46) rfl ?_);refine goesL_ (some 26) rfl rfl Try.func46 (by kernel_rfl) rfl #[.agg #[I L a0_0,I L a0_1,I L a0_2]] rfl Z20 ?_;(with_reducible refine (spec_l13List.calls a0_0 a0_1 a0_2 Jk _ A35.out).mono ?_);rintro e w40 ⟨Md,rfl,ho0,hb⟩;refine ⟨_,rfl,?_⟩;have n_:=an_ (Kd.R_lower ho0 (below_size (pB_ HB.out)))<|an_ (blk_below (pk_ Ka.out) hb)<|an_ (blk_below (pk_ Ja.out) hb)<|an_ (blk_below (pk_ Ma.out) hb)<|D (below_step (pB_ HB.out) hb);clear Ka Ja Ma HB;obtain ⟨Mc,Ka,Ja,Ma,HB⟩:=n_;(try clear hb);(try clear ho0);(try have:=Jc.out);(try have:=Kc.out);have Oo:=cells3 Ja.out)|((with_reducible refine gate_callee (f:=46) rfl ?_);refine goesL_ (some 28) rfl rfl Try.func46 (by kernel_rfl) rfl #[.agg #[I L a1_0,I L a1_1,I L a1_2]] rfl Z20 ?_;(with_reducible refine (spec_l13List.calls a1_0 a1_1 a1_2 Mb _ A36.out).mono ?_);rintro e w43 ⟨Od,rfl,ho0,hb⟩;refine ⟨_,rfl,?_⟩;have n_:=an_ (Kd.R_elder' (pR_ Mc.out) (Kd.R_base ho0) hb)<|an_ (Kd.R_lower (nw_ ho0 (pR_ Mc.out)) (below_size (pB_ HB.out)))<|an_ (blk_below (pk_ Ka.out) hb)<|an_ (blk_below (pk_ Ja.out) hb)<|an_ (blk_below (pk_ Ma.out) hb)<|D (below_step (pB_ HB.out) hb);clear Mc Ka Ja Ma HB;obtain ⟨Mc,Op,Ka,Ja,Ma,HB⟩:=n_;(try clear hb);(try clear ho0)))
    go_loopg [10] kj3 (fun kq v10 w'=>∃ (x8_2:List Int) (Oa:Int),v10=I L Oa∧Aside0 (spec_Finish.l0 kq a2 x8_2 Mb Oa=some (r1,r2,r3,r4))∧Aside0 (kq≤kj3)∧Aside0 (Kd.R (Kd.int .i64) 3 w' w.heap.size (fun k_=>some k_≠(Od:Value).ownBlock) Md x8_2)∧Aside0 (Kd.R (Kd.int .i64) 3 w' w.heap.size (fun k_=>some k_≠(Md:Value).ownBlock) Od Mb)∧Aside0 (w'.heap[Ob]?=some (.cells #[I L a0_0,I L a0_1,I L a0_2] 29 (0,0)))∧Aside0 (w'.heap[Jb]?=some (.cells #[I L a1_0,I L a1_1,I L a1_2] 29 (0,0)))∧Aside0 (w'.heap[Kb]?=some (.cells #[I L 0,I L 0,I L 0] 29 (0,0)))∧Aside0 (Below w.heap.size w w'))
    case atStart=>exact ⟨(Jk),(0),Z69,H',⟨Nat.le_refl _⟩,⟨pR_ (Kd.R_mono Mc.out (fun _ hk=>hk.2))⟩,⟨pR_ (Kd.R_mono Op.out (fun _ hk=>hk.2))⟩,⟨pk_ Ka.out⟩,⟨pk_ Ja.out⟩,⟨pk_ Ma.out⟩,⟨pB_ HB.out⟩⟩
    case round =>
     clear H'
     (try clear c1);(try clear c2);(try clear p2);(try clear c3);(try clear c4);(try clear c7);(try clear c8);(try clear c9);(try clear c11);(try clear c13);(try clear c14);(try clear c17);(try clear c20);(try clear c21);(try clear c24);(try clear c27);(try clear c28);(try clear c31);(try clear c32);(try clear c33);(try clear c37);(try clear c38);(try clear c41);(try clear Jf);(try clear Jg);(try clear Jh);(try clear Ji);(try clear Jj);(try clear Om);(try clear On);(try clear Oo);(try clear p2)
     obtain ⟨x8_2, Oa, rfl, HA, HK2, Ua, Xa, Ka, Ja, Ma, HB⟩ := hrel
     cases gk with
     | zero => exact absurd HA.out (by simp [spec_Finish.l0])
     | succ k2 =>
      have H := HA.out; clear HA; simp only [spec_Finish.l0] at H
      by_cases c44 : Oa < 3
      ·rw [if_pos c44] at H
       have c44b0 : decide (Oa < 3) = true := decide_eq_true c44; clear c44
       by_cases c45 : 0 ≤ Oa
       ·rw [if_pos c45] at H
        have c45b0 : decide (0 ≤ Oa) = true := decide_eq_true c45; clear c45
        by_cases c46 : Oa < (x8_2.length : Int)
        ·rw [if_pos c46] at H
         have c46b0 : decide (Oa < (x8_2.length : Int)) = true := decide_eq_true c46; clear c46
         by_cases c47 : Oa < (Mb.length : Int)
         ·rw [if_pos c47] at H
          have c47b0:decide (Oa < (Mb.length:Int))=true:=decide_eq_true c47;clear c47;obtain ⟨Ud,A480,H⟩:=bs_.mp H;(try dsimp only at H);have A48:=D A480;clear A480;obtain ⟨y272,hy272⟩:∃ y_:List Int,y_=(x8_2.set (Oa:Int).toNat (wrap64 ((rd x8_2 Oa) + (wrap64 ((rd Mb Oa) * Ud))))):=⟨_,rfl⟩
          replace H:(spec_Finish.l0 k2 a2 y272 Mb (wrap64 (Oa + 1)))=some (r1,r2,r3,r4):=by first|(rw [hy272];with_reducible exact H)|(have H2_:=(Option.bind_some _ _).symm.trans H;rw [hy272];with_reducible exact H2_)|(have H2_:=(Option.bind_some _ _).symm.trans H;with_reducible exact H2_)|with_reducible exact H|(rw [hy272];exact H)|exact H
          have Ny272 := D hy272; clear hy272; have H' := D H; clear H
          try go_wp2
          (try (rw [drewN_self wr];generalize hq_:World.drewN wr _=wr;have n0_:Aside0 (Kd.R (Kd.int .i64) 3 wr w.heap.size (fun k_=>some k_≠(Od:Value).ownBlock) Md x8_2):=⟨by rw [← hq_];exact (pR_ Ua.out)⟩;have n1_:Aside0 (Kd.R (Kd.int .i64) 3 wr w.heap.size (fun k_=>some k_≠(Md:Value).ownBlock) Od Mb):=⟨by rw [← hq_];exact (pR_ Xa.out)⟩;have n2_:Aside0 (wr.heap[Ob]?=some (.cells #[I L a0_0,I L a0_1,I L a0_2] 29 (0,0))):=⟨by rw [← hq_];exact (pk_ Ka.out)⟩;have n3_:Aside0 (wr.heap[Jb]?=some (.cells #[I L a1_0,I L a1_1,I L a1_2] 29 (0,0))):=⟨by rw [← hq_];exact (pk_ Ja.out)⟩;have n4_:Aside0 (wr.heap[Kb]?=some (.cells #[I L 0,I L 0,I L 0] 29 (0,0))):=⟨by rw [← hq_];exact (pk_ Ma.out)⟩;have n5_:Aside0 (Below w.heap.size w wr):=⟨by rw [← hq_];exact (pB_ HB.out)⟩;clear Ua Xa Ka Ja Ma HB hq_;have Ua:=n0_;have Xa:=n1_;have Ka:=n2_;have Ja:=n3_;have Ma:=n4_;have HB:=n5_;clear n0_ n1_ n2_ n3_ n4_ n5_))
          have n_ := an_ (Kd.R_drew Ua.out) <| an_ (Kd.R_drew Xa.out) <| an_ (blk_drew Ka.out) <| an_ (blk_drew Ja.out) <| an_ (blk_drew Ma.out) <| D (below_drew1 HB.out)
          clear Ua Xa Ka Ja Ma HB;obtain ⟨Ua,Xa,Ka,Ja,Ma,HB⟩:=n_;obtain ⟨Xq,Jr,eo51⟩:=Kd.R_slice Ua.out;(first|subst eo51|obtain ⟨rfl,rfl⟩:=sl_inj eo51);have p269:0≤(Oa:Int):=od_ Z68;have q269:Oa < (x8_2.length:Int):=od_ Z68;obtain ⟨ad269,e269,hx269_0⟩:=Kd.at_int (Kd.R_reads' Ua.out).2.2 Oa p269 q269;cases e269;replace p269:=eq_true p269;replace q269:=eq_true q269;obtain ⟨Kr,Mr,eo52⟩:=Kd.R_slice Xa.out;(first|subst eo52|obtain ⟨rfl,rfl⟩:=sl_inj eo52);have p270:0≤(Oa:Int):=od_ Z68;have q270:Oa < (Mb.length:Int):=od_ Z68;obtain ⟨ad270,e270,hx270_0⟩:=Kd.at_int (Kd.R_reads' Xa.out).2.2 Oa p270 q270;cases e270;replace p270:=eq_true p270;replace q270:=eq_true q270;refine start_ (n:=16) (S:=fun w'=>w'.cell? (ad269.add (Oa).toNat)=some (I L (rd x8_2 Oa))∧w'.cell? (ad270.add (Oa).toNat)=some (I L (rd Mb Oa))) (ds:=[15]) (bz 16 0) (by kernel_rfl) rfl (by kernel_rfl) ⟨hx269_0,hx270_0⟩ (fun hHeld=>?_);refine with_tabW spec_Finish.tab8 spec_Finish.bits8 (fun HT_ HW_=>?_);generalize wr.drew=w50 at Ua Xa Ka Ja Ma HB hx269_0 hx270_0 hHeld ⊢;refine pb_ 0 ?_;refine pb_ 1 ?_;refine pb_ 2 ?_;refine pb_ 3 ?_;refine pb_ 4 ?_;refine pb_ 6 ?_;refine pb_ 7 ?_;refine pb_ 8 ?_;refine pb_ 10 ?_;refine ta_ 5 38 16 1535 HT_ HW_ rfl rfl hHeld (by rintro w' ⟨s0,s1⟩;go_simp;with_reducible rfl) ?_;refine ta_ 9 42 16 2047 HT_ HW_ rfl rfl hHeld (by rintro w' ⟨s0,s1⟩;go_simp;with_reducible rfl) ?_;refine oa_ 11 44 16 4095 HT_ (fun K hK=>?_);refine goes_ Try.func20 (by kernel_rfl) rfl #[I L a2] (by rfl) rfl rfl Z20 ?_;with_reducible refine (spec_Stride.calls a2 Ud _ A48.out).mono ?_
          rintro e w' ⟨rfl,⟨nd,rfl⟩⟩;refine ⟨_,rfl,?_⟩;have p49:0≤(Oa:Int):=od_ Z68;have q49:(Oa:Int) < ((x8_2.length:Int):Int):=od_ Z68;obtain ⟨go49,Or,eo49,Kk,gl49,cl49,HG49⟩:=Kd.R_form Ua.out (by omega);(first|cases eo49|(injection eo49 with ea_ en_ ec_;(first|subst ea_|(injection ea_ with ea_;subst ea_));subst ec_;clear en_));have GB49:=D Kk;have GG49:=D HG49;clear Kk gl49 HG49;(first|simp only [add_plain] at hx269_0|skip);obtain ⟨hx49_0,hf49_0⟩:=Kd.R_celln 0 Ua.out (Oa:Int) p49 q49;replace p49:=eq_true p49;replace q49:=eq_true q49;have HP53:=Kd.R_putn Ua.out (Oa:Int) (wrap64 ((rd x8_2 Oa) + (wrap64 ((rd Mb Oa) * Ud))));rw [← Ny272.out] at HP53;have HQ53:=D HP53;clear HP53;refine hK.out _ _ ⟨hHeld.1,hHeld.2⟩ (fun hHeld=>?_);clear hK K;refine nx_ (N:=some 44) ?_;refine pb_ 12 ?_;refine pb_ 13 ?_;refine pb_ 14 ?_;refine last_ (i:=15) (N:=none) (bz 16 65535) rfl rfl (one_of HT_.out (by kernel_rfl)) (by decide) (fun K hK=>?_);refine skip_ (w1:=?_) (by rfl) rfl ?_ ?_;rotate_left
          ·go_simp
           rfl
          refine hK.out _ _ ?_; clear hK K; refine done_ (done_of HT_.out (by kernel_rfl)) ?_
          try go_wp2
          go_roundg k2
          case measure => have := HJ3.out; have := HK2.out; omega
          case rel=>exact ⟨(y272),(wrap64 (Oa + 1)),Z69,H',⟨by have:=HJ3.out;have:=HK2.out;omega⟩,⟨pR_ HQ53.out⟩,⟨pR_ (Kd.R_mono (Kd.R_far (p:=⟨go49,(Oa:Int).toNat,none⟩) (Kd.R_mono Xa.out (fun k_ hk=>(⟨hk,fun e_=>hk (by rw [e_];rfl)⟩:_∧k_≠go49))) (fun _ hk=>hk.2) (I L (wrap64 ((rd x8_2 Oa) + (wrap64 ((rd Mb Oa) * Ud)))))) (fun _ hk=>hk.1))⟩,⟨by refine pk_ ?_;refine blk_far ?_ (by have h_:=Kd.R_ne Ua.out Ka.out (by decide);intro e_;exact h_ (by rw [e_];rfl)) _;refine pk_ ?_;exact Ka.out⟩,⟨by refine pk_ ?_;refine blk_far ?_ (by have h_:=Kd.R_ne Ua.out Ja.out (by decide);intro e_;exact h_ (by rw [e_];rfl)) _;refine pk_ ?_;exact Ja.out⟩,⟨by refine pk_ ?_;refine blk_far ?_ (by have h_:=Kd.R_ne Ua.out Ma.out (by decide);intro e_;exact h_ (by rw [e_];rfl)) _;refine pk_ ?_;exact Ma.out⟩,⟨by repeat (first|(with_reducible first|exact HB.out|apply below_alloc|apply pw_below_drewN|apply below_drew1|refine below_set ?_ GB49.out|refine below_set ?_ Jm.out|refine below_set ?_ Km.out|refine below_set ?_ Mm.out)|exact HB.out)⟩⟩
         ·rw [if_neg c47] at H
          exact absurd H (by simp)
        ·rw [if_neg c46] at H
         exact absurd H (by simp)
       ·rw [if_neg c45] at H
        exact absurd H (by simp)
      ·rw [if_neg c44] at H
       have c44b0:decide (Oa < 3)=false:=decide_eq_false c44;clear c44;obtain ⟨⟨Me,Oe,Ue⟩,A540,H⟩:=bs_.mp H;(try dsimp only at H);have A54:=D A540;clear A540;obtain ⟨Mk,A550,H⟩:=bs_.mp H;(try dsimp only at H);have A55:=D A550;clear A550;have HU56:=D H;clear H;obtain ⟨Ok,Uk,eo57⟩:=Kd.R_slice Ua.out;subst eo57
       go_upto_if 51 with (first|((with_reducible refine gate_callee (f:=61) rfl ?_);refine goesL_ (some 49) rfl rfl Try.func61 (by kernel_rfl) rfl #[Y Ok x8_2.length Uk] rfl Z20 ?_;(with_reducible refine (spec_l13Of.calls _ _ x8_2 Me Oe Ue _ ?side1 ?side2 A54.out).mono ?_);(case side1=>exact pC_ ((Kd.R_reads' Ua.out).2.2));(case side2=>exact (Kd.R_reads' Ua.out).2.1);rintro e w58 ⟨rfl,hb⟩;refine ⟨_,rfl,?_⟩;have n_:=an_ (Kd.R_below (pR_ Ua.out) hb)<|an_ (Kd.R_below (pR_ Xa.out) hb)<|an_ (blk_below (pk_ Ka.out) hb)<|an_ (blk_below (pk_ Ja.out) hb)<|an_ (blk_below (pk_ Ma.out) hb)<|D (below_step (pB_ HB.out) hb);clear Ua Xa Ka Ja Ma HB;obtain ⟨Ua,Xa,Ka,Ja,Ma,HB⟩:=n_;(try clear hb))|((with_reducible refine gate_callee (f:=80) rfl ?_);refine goesL_ (some 50) rfl rfl Try.func80 (by kernel_rfl) rfl #[.agg #[I L Me,I L Oe,I L Ue]] rfl Z20 ?_;(with_reducible refine (spec_TagOk.calls Me Oe Ue Mk _ A55.out).mono ?_);rintro e w59 ⟨rfl,hb⟩;refine ⟨_,rfl,?_⟩;have n_:=an_ (Kd.R_below (pR_ Ua.out) hb)<|an_ (Kd.R_below (pR_ Xa.out) hb)<|an_ (blk_below (pk_ Ka.out) hb)<|an_ (blk_below (pk_ Ja.out) hb)<|an_ (blk_below (pk_ Ma.out) hb)<|D (below_step (pB_ HB.out) hb);clear Ua Xa Ka Ja Ma HB;obtain ⟨Ua,Xa,Ka,Ja,Ma,HB⟩:=n_;(try clear hb)))
       have H := HU56.out; clear HU56
       by_cases c60 : Mk = true
       ·subst c60
        rw [if_pos rfl] at H;obtain ⟨⟨Xd,Xe,Xk⟩,A610,H⟩:=bs_.mp H;(try dsimp only at H);have A61:=D A610;clear A610;simp only [Option.some.injEq,Prod.mk.injEq] at H;obtain ⟨rfl,rfl,rfl,rfl⟩:=H
        go_wp2_with (first|((with_reducible refine gate_callee (f:=61) rfl ?_);refine goesL_ (some 54) rfl rfl Try.func61 (by kernel_rfl) rfl #[Y Ok x8_2.length Uk] rfl Z20 ?_;(with_reducible refine (spec_l13Of.calls _ _ x8_2 Xd Xe Xk _ ?side1 ?side2 A61.out).mono ?_);(case side1=>exact pC_ ((Kd.R_reads' Ua.out).2.2));(case side2=>exact (Kd.R_reads' Ua.out).2.1);rintro e w62 ⟨rfl,hb⟩;refine ⟨_,rfl,?_⟩;have n_:=an_ (Kd.R_below (pR_ Ua.out) hb)<|an_ (Kd.R_below (pR_ Xa.out) hb)<|an_ (blk_below (pk_ Ka.out) hb)<|an_ (blk_below (pk_ Ja.out) hb)<|an_ (blk_below (pk_ Ma.out) hb)<|D (below_step (pB_ HB.out) hb);clear Ua Xa Ka Ja Ma HB;obtain ⟨Ua,Xa,Ka,Ja,Ma,HB⟩:=n_;(try clear hb);(try have:=Xb.out);(try have:=Ub.out);(try have:=Kc.out);(try have:=Jc.out);have Ur:=cells3 Ma.out))
        refine bodyPost_ret (results_ct rfl _ _ Kb 29 #[I L Xd,I L Xe,I L Xk] (0,0) _ rfl (by exact pP_ Ma.out) Try.underlying29 rfl (by kernel_rfl)) rfl ?_;exact ⟨er_,pB_ HB.out⟩
       ·replace c60 := Bool.eq_false_iff.mpr c60
        subst c60;rw [if_neg (show ¬ (false=true) by decide)] at H;simp only [Option.some.injEq,Prod.mk.injEq] at H;obtain ⟨rfl,rfl,rfl,rfl⟩:=H;(try have:=Xb.out);(try have:=Ub.out);(try have:=Kc.out);(try have:=Jc.out);have Us:=cells3 Ma.out
        go_wp2
        refine bodyPost_ret (results_ct rfl _ _ Kb 29 #[I L 0,I L 0,I L 0] (0,0) _ rfl Z16 Try.underlying29 rfl (by kernel_rfl)) rfl ?_;exact ⟨er_,pB_ HB.out⟩

/-! ### spec_Dovetail: function 73 -/
mutual
def spec_Dovetail.j0 : Nat → Int → Bool → Int → Int → Int → Option (Int × Int × Int)
 | 0, _, _, _, _, _ => none
 | k + 1, x1, x14, x281000, x281001, x281002 => if x14 = true then (some (0, 0, 0)) else ((spec_l13List.f x281000 x281001 x281002).bind fun Up => (spec_Dovetail.l0 k x1 Up 0 x281000 x281001 x281002))
def spec_Dovetail.l0 : Nat → Int → List Int → Int → Int → Int → Int → Option (Int × Int × Int)
 | 0, _, _, _, _, _, _ => none
 | k + 1,x1,x5,x6,x281000,x281001,x281002=>if x6 < 3 then (if 0≤x6 then (if x6 < (x5.length:Int) then ((spec_VecTop.f x281000 x281001 x281002).bind fun Xp=>(spec_Dovetail.l0 k x1 (x5.set (x6:Int).toNat (mx (rd x5 x6) (wrap64 (Xp - x1)))) (wrap64 (x6 + 1)) x281000 x281001 x281002)) else (none)) else (none)) else ((spec_l13Of.f x5).bind fun bt290=>(some (bt290.1,bt290.2.1,bt290.2.2)))
end
def spec_Dovetail.f (k : Nat) (a0_0 a0_1 a0_2 a1 : Int) : Option (Int × Int × Int) := (spec_TagOk.f a0_0 a0_1 a0_2).bind fun Jq => (if Jq = true then ((spec_l13Delta.f a1).bind fun Kq => (spec_Dovetail.j0 k a1 (!Kq) a0_0 a0_1 a0_2)) else (spec_Dovetail.j0 k a1 true a0_0 a0_1 a0_2))
def spec_Dovetail.T7 : Bool × List (List Nat × List Nat) := (true, [([], []), ([], []), ([], []), ([], []), ([2, 3], [2, 3]), ([4], [4]), ([], []), ([6], [6]), ([], []), ([7, 8], [7, 8]), ([5, 9], [5, 9]), ([0, 1, 0, 1, 2, 3, 4, 5, 6, 7, 8, 9, 10], [0, 1]), ([11, 10, 7, 0, 1, 2, 3, 4, 5, 6, 7, 8, 9, 10], [10, 11])])
def spec_Dovetail.B7 : List Nat := [0, 0, 0, 0, 12, 28, 0, 64, 0, 448, 1020, 2047, 4095]
theorem spec_Dovetail.tab7 : rtab .any (opsOf Try.f73 7) = spec_Dovetail.T7 := by kernel_rfl
theorem spec_Dovetail.bits7 : waitsOk spec_Dovetail.T7.2 spec_Dovetail.B7 = true := by kernel_rfl
set_option maxHeartbeats 8000000 in
set_option maxRecDepth 100000 in
theorem spec_Dovetail.calls (k : Nat) (a0_0 a0_1 a0_2 a1 r1 r2 r3 : Int) (w : World) (h : spec_Dovetail.f k a0_0 a0_1 a0_2 a1 = some (r1, r2, r3)) :
  Calls Try.prog 73 #[.agg #[I L a0_0,I L a0_1,I L a0_2],I L a1] w fun e w'=>e=.returned (.agg #[I L r1,I L r2,I L r3])∧Below w.heap.size w w':=by
 have hu29 := Try.underlying29
 have HB := D (Below.refl w.heap.size w)
 have H:((spec_TagOk.f a0_0 a0_1 a0_2).bind fun Xb=>(if Xb=true then ((spec_l13Delta.f a1).bind fun Kb=>(spec_Dovetail.j0 k a1 (!Kb) a0_0 a0_1 a0_2)) else (spec_Dovetail.j0 k a1 true a0_0 a0_1 a0_2)))=some (r1,r2,r3):=h
 clear h
 have HC3 := D H
 clear H
 go_enter Try.func73, Try.ntmps73
 go_upto_region 1 with (first|((with_reducible refine gate_dst (N:=2) rfl ?_);refine bx_ (N:=2) (cs:=#[I L a0_0,I L a0_1,I L a0_2]) (t:=29) ?_;intro Ua hg w4 hbox hb;have n_:=an_ (below_step (pB_ HB.out) hb)<|an_ (hbox)<|an_ (bg_ hg (pB_ HB.out):w.heap.size≤Ua)<|D (bg_ hg (pB_ HB.out):w.heap.size≤Ua);clear HB;obtain ⟨HB,Ja,Xh,Jf⟩:=n_;clear hb hbox hg)|((with_reducible refine gate_dst (N:=4) rfl ?_);refine bx_ (N:=4) (cs:=#[I L 0,I L 0,I L 0]) (t:=29) ?_;intro Oa hg w5 hbox hb;have n_:=an_ (blk_below (pk_ Ja.out) hb)<|an_ (below_step (pB_ HB.out) hb)<|an_ (hbox)<|an_ (bg_ hg (pB_ HB.out):w.heap.size≤Oa)<|an_ (bg_ hg (pB_ HB.out):w.heap.size≤Oa)<|an_ (nl_ hg (pk_ Ja.out):Ua≠Oa)<|D (by rw [hg];exact Nat.ne_of_gt (blk_lt (pk_ Ja.out)):Oa≠Ua);clear Ja HB;obtain ⟨Ja,HB,Ka,Ji,Kf,Xa,Jb⟩:=n_;clear hb hbox hg))
 (try simp only [Act.put, List.setIfInBounds_toArray, List.set_cons_zero, List.set_cons_succ])
 go_cut [14] (fun v14 wc=>∃ (kq:Nat) (Mb:Bool),v14=.bool Mb∧Aside0 (spec_Dovetail.j0 kq a1 Mb a0_0 a0_1 a0_2=some (r1,r2,r3))∧Aside0 (kq≤k)∧Aside0 (wc.heap[Ua]?=some (.cells #[I L a0_0,I L a0_1,I L a0_2] 29 (0,0)))∧Aside0 (wc.heap[Oa]?=some (.cells #[I L 0,I L 0,I L 0] 29 (0,0)))∧Aside0 (Below w.heap.size w wc))
 case first =>
  have H := HC3.out; clear HC3; obtain ⟨Xb, A60, H⟩ := bs_.mp H; (try dsimp only at H); have A6 := D A60; clear A60
  by_cases c7 : Xb = true
  ·subst c7
   rw [if_pos rfl] at H;obtain ⟨Kb,A80,H⟩:=bs_.mp H;(try dsimp only at H);have A8:=D A80;clear A80;have H':=D H;clear H;(try have:=Xa.out);(try have:=Jb.out);have Kc:=cells3 Ja.out
   go_wp2_with (first|((with_reducible refine gate_callee (f:=80) rfl ?_);refine goesL_ (some 8) rfl rfl Try.func80 (by kernel_rfl) rfl #[.agg #[I L a0_0,I L a0_1,I L a0_2]] rfl Z20 ?_;(with_reducible refine (spec_TagOk.calls a0_0 a0_1 a0_2 true _ A6.out).mono ?_);rintro e w11 ⟨rfl,hb⟩;refine ⟨_,rfl,?_⟩;have n_:=an_ (blk_below (pk_ Ja.out) hb)<|an_ (blk_below (pk_ Ka.out) hb)<|D (below_step (pB_ HB.out) hb);clear Ja Ka HB;obtain ⟨Ja,Ka,HB⟩:=n_;(try clear hb))|(go_at_call 59;(with_reducible refine (spec_l13Delta.calls a1 Kb _ A8.out).mono ?_);rintro e w' ⟨rfl,⟨nd,rfl⟩⟩))
   go_meet
   case rel => exact ⟨_, (!Kb), Z69, H', ⟨by first | omega | exact Nat.le_refl _⟩, ⟨pk_ Ja.out⟩, ⟨pk_ Ka.out⟩, ⟨pB_ HB.out⟩⟩
  ·replace c7 := Bool.eq_false_iff.mpr c7
   subst c7;rw [if_neg (show ¬ (false=true) by decide)] at H;have H':=D H;clear H;(try have:=Xa.out);(try have:=Jb.out);have Md:=cells3 Ja.out
   go_wp2_with (first|((with_reducible refine gate_callee (f:=80) rfl ?_);refine goesL_ (some 8) rfl rfl Try.func80 (by kernel_rfl) rfl #[.agg #[I L a0_0,I L a0_1,I L a0_2]] rfl Z20 ?_;(with_reducible refine (spec_TagOk.calls a0_0 a0_1 a0_2 false _ A6.out).mono ?_);rintro e w14 ⟨rfl,hb⟩;refine ⟨_,rfl,?_⟩;have n_:=an_ (blk_below (pk_ Ja.out) hb)<|an_ (blk_below (pk_ Ka.out) hb)<|D (below_step (pB_ HB.out) hb);clear Ja Ka HB;obtain ⟨Ja,Ka,HB⟩:=n_;(try clear hb)))
   go_meet
   case rel => exact ⟨_, (true), Z69, H', ⟨by first | omega | exact Nat.le_refl _⟩, ⟨pk_ Ja.out⟩, ⟨pk_ Ka.out⟩, ⟨pB_ HB.out⟩⟩
 case rest =>
  clear HC3
  (try clear c1);(try clear p2);(try clear c7);(try clear c8);(try clear c9);(try clear c12);(try clear Kc);(try clear Md)
  obtain ⟨kq, Mb, rfl, HA, HJ2, Ja, Ka, HB⟩ := hcut
  cases kq with
  | zero => exact absurd HA.out (by simp [spec_Dovetail.j0])
  | succ kj2 =>
   have H := HA.out; clear HA; simp only [spec_Dovetail.j0] at H
   by_cases c15 : Mb = true
   ·subst c15
    rw [if_pos rfl] at H;simp only [Option.some.injEq,Prod.mk.injEq] at H;obtain ⟨rfl,rfl,rfl⟩:=H;(try have:=Jb.out);(try have:=Xa.out);have Mf:=cells3 Ka.out
    go_wp2
    refine bodyPost_ret (results_cell_row rfl _ _ Oa 29 #[I L 0,I L 0,I L 0] (0,0) _ rfl (by exact pP_ Ka.out) Try.underlying29 rfl (by kernel_rfl)) rfl ?_;exact ⟨er_,pB_ HB.out⟩
   ·replace c15 := Bool.eq_false_iff.mpr c15
    subst c15;rw [if_neg (show ¬ (false=true) by decide)] at H;obtain ⟨Me,A180,H⟩:=bs_.mp H;(try dsimp only at H);have A18:=D A180;clear A180;have H':=D H;clear H;(try have:=Xa.out);(try have:=Jb.out);have Mg:=cells3 Ja.out
    go_wp2_with (first|((with_reducible refine gate_callee (f:=46) rfl ?_);refine goesL_ (some 17) rfl rfl Try.func46 (by kernel_rfl) rfl #[.agg #[I L a0_0,I L a0_1,I L a0_2]] rfl Z20 ?_;(with_reducible refine (spec_l13List.calls a0_0 a0_1 a0_2 Me _ A18.out).mono ?_);rintro e w21 ⟨Oe,rfl,ho0,hb⟩;refine ⟨_,rfl,?_⟩;have n_:=an_ (Kd.R_lower ho0 (below_size (pB_ HB.out)))<|an_ (blk_below (pk_ Ja.out) hb)<|an_ (blk_below (pk_ Ka.out) hb)<|D (below_step (pB_ HB.out) hb);clear Ja Ka HB;obtain ⟨Mh,Ja,Ka,HB⟩:=n_;(try clear hb);(try clear ho0)))
    go_loopg [6] kj2 (fun kq v6 w'=>∃ (x5_2:List Int) (x6_2:Int),v6=I L x6_2∧Aside0 (spec_Dovetail.l0 kq a1 x5_2 x6_2 a0_0 a0_1 a0_2=some (r1,r2,r3))∧Aside0 (kq≤kj2)∧Aside0 (Kd.R (Kd.int .i64) 3 w' w.heap.size (fun _=>True) Oe x5_2)∧Aside0 (w'.heap[Ua]?=some (.cells #[I L a0_0,I L a0_1,I L a0_2] 29 (0,0)))∧Aside0 (w'.heap[Oa]?=some (.cells #[I L 0,I L 0,I L 0] 29 (0,0)))∧Aside0 (Below w.heap.size w w'))
    case atStart => exact ⟨(Me), (0), Z69, H', ⟨Nat.le_refl _⟩, ⟨pR_ Mh.out⟩, ⟨pk_ Ja.out⟩, ⟨pk_ Ka.out⟩, ⟨pB_ HB.out⟩⟩
    case round =>
     clear H'
     (try clear c1);(try clear p2);(try clear c4);(try clear c7);(try clear c8);(try clear c9);(try clear c12);(try clear c15);(try clear c16);(try clear c19);(try clear Kc);(try clear Md);(try clear Mf);(try clear Mg);(try clear p2)
     obtain ⟨x5_2, x6_2, rfl, HA, HK2, Ma, Ja, Ka, HB⟩ := hrel
     cases gk with
     | zero => exact absurd HA.out (by simp [spec_Dovetail.l0])
     | succ k2 =>
      have H := HA.out; clear HA; simp only [spec_Dovetail.l0] at H
      by_cases c22 : x6_2 < 3
      ·rw [if_pos c22] at H
       have c22b0 : decide (x6_2 < 3) = true := decide_eq_true c22; clear c22
       by_cases c23 : 0 ≤ x6_2
       ·rw [if_pos c23] at H
        have c23b0 : decide (0 ≤ x6_2) = true := decide_eq_true c23; clear c23
        by_cases c24 : x6_2 < (x5_2.length : Int)
        ·rw [if_pos c24] at H
         have c24b0:decide (x6_2 < (x5_2.length:Int))=true:=decide_eq_true c24;clear c24;obtain ⟨Ob,A250,H⟩:=bs_.mp H;(try dsimp only at H);have A25:=D A250;clear A250;obtain ⟨ji26,hji26⟩:∃ j_:Int,(mx (rd x5_2 x6_2) (wrap64 (Ob - a1)))=j_:=⟨_,rfl⟩
         replace H:(spec_Dovetail.l0 k2 a1 (x5_2.set (x6_2:Int).toNat (ji26)) (wrap64 (x6_2 + 1)) a0_0 a0_1 a0_2)=some (r1,r2,r3):=by first|(rw [hji26] at H;exact H)|(simp only [hji26] at H ⊢;exact H)
         (try rw [hji26] at A25);have hji26_:(if (rd x5_2 x6_2) < (wrap64 (Ob - a1)) then (wrap64 (Ob - a1)) else (rd x5_2 x6_2))=ji26:=hji26;obtain ⟨y289,hy289⟩:∃ y_:List Int,y_=(x5_2.set (x6_2:Int).toNat (ji26)):=⟨_,rfl⟩
         replace H:(spec_Dovetail.l0 k2 a1 y289 (wrap64 (x6_2 + 1)) a0_0 a0_1 a0_2)=some (r1,r2,r3):=by first|(rw [hy289];with_reducible exact H)|(have H2_:=(Option.bind_some _ _).symm.trans H;rw [hy289];with_reducible exact H2_)|(have H2_:=(Option.bind_some _ _).symm.trans H;with_reducible exact H2_)|with_reducible exact H|(rw [hy289];exact H)|exact H
         have Ny289 := D hy289; clear hy289; have H' := D H; clear H
         try go_wp2
         (try (rw [drewN_self wr];generalize hq_:World.drewN wr _=wr;have n0_:Aside0 (Kd.R (Kd.int .i64) 3 wr w.heap.size (fun _=>True) Oe x5_2):=⟨by rw [← hq_];exact (pR_ Ma.out)⟩;have n1_:Aside0 (wr.heap[Ua]?=some (.cells #[I L a0_0,I L a0_1,I L a0_2] 29 (0,0))):=⟨by rw [← hq_];exact (pk_ Ja.out)⟩;have n2_:Aside0 (wr.heap[Oa]?=some (.cells #[I L 0,I L 0,I L 0] 29 (0,0))):=⟨by rw [← hq_];exact (pk_ Ka.out)⟩;have n3_:Aside0 (Below w.heap.size w wr):=⟨by rw [← hq_];exact (pB_ HB.out)⟩;clear Ma Ja Ka HB hq_;have Ma:=n0_;have Ja:=n1_;have Ka:=n2_;have HB:=n3_;clear n0_ n1_ n2_ n3_))
         have n_ := an_ (Kd.R_drew Ma.out) <| an_ (blk_drew Ja.out) <| an_ (blk_drew Ka.out) <| D (below_drew1 HB.out)
         clear Ma Ja Ka HB;obtain ⟨Ma,Ja,Ka,HB⟩:=n_;obtain ⟨Ki,Mi,eo29⟩:=Kd.R_slice Ma.out;(first|subst eo29|obtain ⟨rfl,rfl⟩:=sl_inj eo29);have p287:0≤(x6_2:Int):=od_ Z68;have q287:x6_2 < (x5_2.length:Int):=od_ Z68;obtain ⟨ad287,e287,hx287_0⟩:=Kd.at_int (Kd.R_reads' Ma.out).2.2 x6_2 p287 q287;cases e287;replace p287:=eq_true p287;replace q287:=eq_true q287;refine start_ (n:=13) (S:=fun w'=>w'.cell? ⟨Ua,0,none⟩=some (I L a0_0)∧w'.cell? ⟨Ua,1,none⟩=some (I L a0_1)∧w'.cell? ⟨Ua,2,none⟩=some (I L a0_2)∧w'.cell? (ad287.add (x6_2).toNat)=some (I L (rd x5_2 x6_2))) (ds:=[12]) (bz 13 0) (by kernel_rfl) rfl (by kernel_rfl) (bk3_ Ja.out hx287_0) (fun hHeld=>?_);refine with_tabW spec_Dovetail.tab7 spec_Dovetail.bits7 (fun HT_ HW_=>?_);generalize wr.drew=w28 at Ma Ja Ka HB hx287_0 hHeld ⊢;refine pb_ 0 ?_;refine pb_ 1 ?_;refine pb_ 2 ?_;refine pb_ 3 ?_;refine pb_ 4 ?_;refine pb_ 8 ?_;refine ta_ 5 27 13 319 HT_ HW_ rfl rfl hHeld (by rintro w' ⟨s0,s1,s2,s3⟩;go_simp;with_reducible rfl) ?_;refine ta_ 6 28 13 383 HT_ HW_ rfl rfl hHeld (by rintro w' ⟨s0,s1,s2,s3⟩;go_simp;with_reducible rfl) ?_;refine oa_ 7 29 13 511 HT_ (fun K hK=>?_);refine goes_ Try.func47 (by kernel_rfl) rfl #[.agg #[I L a0_0,I L a0_1,I L a0_2]] (by rfl) rfl rfl Z20 ?_;with_reducible refine (spec_VecTop.calls a0_0 a0_1 a0_2 Ob _ A25.out).mono ?_
         rintro e w30 ⟨rfl, hb⟩; have HS3_ := (hb.cell (World.block_lt_of_cell? _ _ (hHeld.2.2.2))).trans (hHeld.2.2.2); refine ⟨_, rfl, ?_⟩
         have n_ := an_ (Kd.R_below (pR_ Ma.out) hb) <| an_ (blk_below (pk_ Ja.out) hb) <| an_ (blk_below (pk_ Ka.out) hb) <| D (below_step (pB_ HB.out) hb)
         clear Ma Ja Ka HB;obtain ⟨Ma,Ja,Ka,HB⟩:=n_;have p27:0≤(x6_2:Int):=od_ Z68;have q27:(x6_2:Int) < ((x5_2.length:Int):Int):=od_ Z68;obtain ⟨go27,Oi,eo27,Ue,gl27,cl27,HG27⟩:=Kd.R_form Ma.out (by omega);(first|cases eo27|(injection eo27 with ea_ en_ ec_;(first|subst ea_|(injection ea_ with ea_;subst ea_));subst ec_;clear en_));have GB27:=D Ue;have GG27:=D HG27;clear Ue gl27 HG27;(first|simp only [add_plain] at hx287_0|skip);obtain ⟨hx27_0,hf27_0⟩:=Kd.R_celln 0 Ma.out (x6_2:Int) p27 q27;replace p27:=eq_true p27;replace q27:=eq_true q27;have HP31:=Kd.R_putn Ma.out (x6_2:Int) ji26;rw [← Ny289.out] at HP31;have HQ31:=D HP31;clear HP31;refine hK.out _ _ (bk3_ Ja.out HS3_) (fun hHeld=>?_);clear hK K;refine nx_ (N:=some 29) ?_;refine pb_ 9 ?_;refine pb_ 10 ?_;refine pb_ 11 ?_;refine last_ (i:=12) (N:=none) (bz 13 8191) rfl rfl (one_of HT_.out (by kernel_rfl)) (by decide) (fun K hK=>?_);refine skip_ (w1:=?_) (by rfl) rfl ?_ ?_;rotate_left
         ·go_simp
          rfl
         refine hK.out _ _ ?_; clear hK K; refine done_ (done_of HT_.out (by kernel_rfl)) ?_
         try go_wp2
         go_roundg k2
         case measure => have := HJ2.out; have := HK2.out; omega
         case rel=>exact ⟨(y289),(wrap64 (x6_2 + 1)),Z69,H',⟨by have:=HJ2.out;have:=HK2.out;omega⟩,⟨pR_ HQ31.out⟩,⟨by refine pk_ ?_;refine blk_far ?_ (by have h_:=Kd.R_ne Ma.out Ja.out (by decide);intro e_;exact h_ (by rw [e_];rfl)) _;refine pk_ ?_;exact Ja.out⟩,⟨by refine pk_ ?_;refine blk_far ?_ (by have h_:=Kd.R_ne Ma.out Ka.out (by decide);intro e_;exact h_ (by rw [e_];rfl)) _;refine pk_ ?_;exact Ka.out⟩,⟨by repeat (first|(with_reducible first|exact HB.out|apply below_alloc|apply pw_below_drewN|apply below_drew1|refine below_set ?_ GB27.out|refine below_set ?_ Jf.out|refine below_set ?_ Kf.out)|exact HB.out)⟩⟩
        ·rw [if_neg c24] at H
         exact absurd H (by simp)
       ·rw [if_neg c23] at H
        exact absurd H (by simp)
      ·rw [if_neg c22] at H
       have c22b0:decide (x6_2 < 3)=false:=decide_eq_false c22;clear c22;obtain ⟨⟨Ub,Jc,Xe⟩,A320,H⟩:=bs_.mp H;(try dsimp only at H);have A32:=D A320;clear A320;simp only [Option.some.injEq,Prod.mk.injEq] at H;obtain ⟨rfl,rfl,rfl⟩:=H;obtain ⟨Oh,Uh,eo33⟩:=Kd.R_slice Ma.out;subst eo33
       go_wp2_with (first|((with_reducible refine gate_callee (f:=61) rfl ?_);refine goesL_ (some 35) rfl rfl Try.func61 (by kernel_rfl) rfl #[Y Oh x5_2.length Uh] rfl Z20 ?_;(with_reducible refine (spec_l13Of.calls _ _ x5_2 Ub Jc Xe _ ?side1 ?side2 A32.out).mono ?_);(case side1=>exact pC_ ((Kd.R_reads' Ma.out).2.2));(case side2=>exact (Kd.R_reads' Ma.out).2.1);rintro e w34 ⟨rfl,hb⟩;refine ⟨_,rfl,?_⟩;have n_:=an_ (Kd.R_below (pR_ Ma.out) hb)<|an_ (blk_below (pk_ Ja.out) hb)<|an_ (blk_below (pk_ Ka.out) hb)<|D (below_step (pB_ HB.out) hb);clear Ma Ja Ka HB;obtain ⟨Ma,Ja,Ka,HB⟩:=n_;(try clear hb);(try have:=Jb.out);(try have:=Xa.out);have Ui:=cells3 Ka.out))
       refine bodyPost_ret (results_cell_row rfl _ _ Oa 29 #[I L Ub,I L Jc,I L Xe] (0,0) _ rfl (by exact pP_ Ka.out) Try.underlying29 rfl (by kernel_rfl)) rfl ?_;exact ⟨er_,pB_ HB.out⟩

end Go.Proofs.Ytpkdkhhknmlpjaa.PFnTakenAdds
