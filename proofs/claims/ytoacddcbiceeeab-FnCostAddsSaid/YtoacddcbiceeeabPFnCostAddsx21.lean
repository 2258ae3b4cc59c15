-- by a program of this session's, over the kit's words
import Derived.Test.YtoacddcbiceeeabPZFnCostAdds
import Derived.Test.YtoacddcbiceeeabPFnCostAddsx0
import Derived.Test.YtoacddcbiceeeabPFnCostAddsx1
import Derived.Test.YtoacddcbiceeeabPFnCostAddsx5
import Derived.Test.YtoacddcbiceeeabPFnCostAddsx11
import Derived.Test.YtoacddcbiceeeabPFnCostAddsx14
import Derived.Test.YtoacddcbiceeeabPFnCostAddsx15
import Derived.Test.YtoacddcbiceeeabPFnCostAddsx20
namespace Go.Proofs.Ytoacddcbiceeeab.PFnCostAdds
open Go.RowKit Go.Proofs.YtoacddcbiceeeabW.PrintWords Go.Proofs.YtoacddcbiceeeabW.PrintLast Go.Proofs.YtoacddcbiceeeabW.PrintMore Go.Proofs.YtoacddcbiceeeabV Go.Proofs.Ytoacddcbiceeeab.ZFnCostAdds
open Go.Value renaming int → I, slice → Y
open Go.IntKind renaming i64 → L
open Aside0 renaming mk → D
open Option renaming bind_eq_some_iff → bs_
attribute [local go_sem] max2_int min2_int max_two min_two max_three min_three max_four min_four   -- for this text's walks alone
set_option linter.unusedVariables false
set_option linter.unusedSimpArgs false

attribute [local go_sem high] eqA29
/-! ### impl_ChainCost: function 7 -/
mutual
def impl_ChainCost.j0 : Nat → List (S43) → List (S36) → Int → Bool → Option (Int × Int × Int)
 | 0, _, _, _, _ => none
 | k + 1, x0, x1, x2, x22 => if x22 = true then (some (0, 0, 0)) else (impl_ChainCost.l0 k x0 x2 x1 (x1.length : Int) 0 0 0 0)
def impl_ChainCost.l0 : Nat → List (S43) → Int → List (S36) → Int → Int → Int → Int → Int → Option (Int × Int × Int)
 | 0, _, _, _, _, _, _, _, _ => none
 | k + 1,x0,x2,x25,x26,x27,x712000,x712001,x712002=>if x27 < x26 then (if 0≤x27 then (if x27 < (x25.length:Int) then (if 0≤(wrap64 (((rd_T36 x25 x27).f0) - 1)) then (if (wrap64 (((rd_T36 x25 x27).f0) - 1)) < (x0.length:Int) then ((impl_ProfCost.f ((rd_T43 x0 (wrap64 (((rd_T36 x25 x27).f0) - 1))).f0.f0) ((rd_T43 x0 (wrap64 (((rd_T36 x25 x27).f0) - 1))).f0.f1) ((rd_T43 x0 (wrap64 (((rd_T36 x25 x27).f0) - 1))).f0.f2) ((rd_T43 x0 (wrap64 (((rd_T36 x25 x27).f0) - 1))).f1.f0) ((rd_T43 x0 (wrap64 (((rd_T36 x25 x27).f0) - 1))).f1.f1) ((rd_T43 x0 (wrap64 (((rd_T36 x25 x27).f0) - 1))).f1.f2) x2).bind fun bt715=>((impl_Vec_plus.f x712000 x712001 x712002 bt715.1 bt715.2.1 bt715.2.2).bind fun bt718=>(impl_ChainCost.l0 k x0 x2 x25 x26 (wrap64 (x27 + 1)) bt718.1 bt718.2.1 bt718.2.2))) else (none)) else (none)) else (none)) else (none)) else ((impl_Vec_each.f x712000 x712001 x712002 (fun z0_=>impl_ChainCost_1.f z0_)).bind fun bt721=>(some (bt721.1,bt721.2.1,bt721.2.2)))
end
def impl_ChainCost.f (k : Nat) (l0 : List (S43)) (l1 : List (S36)) (a2 : Int) : Option (Int × Int × Int) := (impl_areProfs.f k l0).bind fun t708 => (if t708 = true then ((impl_ChainOk.f k l1).bind fun t709 => (if t709 = true then ((impl_isSize.f a2).bind fun t710 => (impl_ChainCost.j0 k l0 l1 a2 (!t710))) else (impl_ChainCost.j0 k l0 l1 a2 true))) else (impl_ChainCost.j0 k l0 l1 a2 true))
def impl_ChainCost.T7 : Bool × List (List Nat × List Nat) := (true, [([], []), ([], []), ([], []), ([2], [2]), ([3], [3]), ([1, 4], [1, 4]), ([5], [5]), ([], []), ([6, 7], [6, 7]), ([0, 8, 8], [0, 8]), ([9, 9, 0, 1, 2, 3, 4, 5, 6, 7, 8, 9], [9])])
def impl_ChainCost.B7 : List Nat := [0, 0, 0, 4, 12, 30, 62, 0, 254, 511, 1023]
theorem impl_ChainCost.tab7 : rtab .any (opsOf Try.f7 7) = impl_ChainCost.T7 := by kernel_rfl
theorem impl_ChainCost.bits7 : waitsOk impl_ChainCost.T7.2 impl_ChainCost.B7 = true := by kernel_rfl
set_option maxHeartbeats 8000000 in
set_option maxRecDepth 100000 in
theorem impl_ChainCost.calls (k : Nat) (A0 : Option Addr) (c0 : Nat) (l0 : List (S43)) (A1 : Option Addr) (c1 : Nat) (l1 : List (S36)) (a2 r1 r2 r3 : Int) (w : World) (hr0 : Kd.C k43 w A0 l0.length l0) (hc0 : l0.length ≤ c0) (hr1 : Kd.C k36 w A1 l1.length l1) (hc1 : l1.length ≤ c1) (h : impl_ChainCost.f k l0 l1 a2 = some (r1, r2, r3)) :
  Calls Try.prog 7 #[Y A0 l0.length c0, Y A1 l1.length c1, I L a2] w fun e w' => e = .returned (.agg #[I L r1, I L r2, I L r3]) ∧ Below w.heap.size w w' := by
 have hu29 := Try.underlying29
 have hu36 := Try.underlying36
 have hu43 := Try.underlying43
 have HR0 := D hr0
 have HC0 := D hc0
 clear hr0 hc0
 have HR1 := D hr1
 have HC1 := D hc1
 clear hr1 hc1
 have HB := D (Below.refl w.heap.size w)
 have H:((impl_areProfs.f k l0).bind fun Md=>(if Md=true then ((impl_ChainOk.f k l1).bind fun Od=>(if Od=true then ((impl_isSize.f a2).bind fun Mc=>(impl_ChainCost.j0 k l0 l1 a2 (!Mc))) else (impl_ChainCost.j0 k l0 l1 a2 true))) else (impl_ChainCost.j0 k l0 l1 a2 true)))=some (r1,r2,r3):=h
 clear h
 have HC4 := D H
 clear H
 go_enter Try.func7, Try.ntmps7
 go_upto_region 1 with (first|((with_reducible refine gld_ 3 rfl ?_);refine lc3_ ?_)|((with_reducible refine gst_ 36 rfl ?_);refine sa36_ ?_)|((with_reducible refine gld_ 36 rfl ?_);refine la36_ ?_)|((with_reducible refine gate_dst (N:=6) rfl ?_);refine bx_ (N:=6) (cs:=#[I L 0,I L 0,I L 0]) (t:=29) ?_;intro Mb hg w5 hbox hb;have n_:=an_ (below_step (pB_ HB.out) hb)<|an_ (hbox)<|an_ (bg_ hg (pB_ HB.out):w.heap.size≤Mb)<|D (bg_ hg (pB_ HB.out):w.heap.size≤Mb);clear HB;obtain ⟨HB,Oa,Kh,Mh⟩:=n_;clear hb hbox hg))
 (try simp only [Act.put, List.setIfInBounds_toArray, List.set_cons_zero, List.set_cons_succ])
 go_cut [22] (fun v22 wc=>∃ (kq:Nat) (Oc:Bool),v22=.bool Oc∧Aside0 (impl_ChainCost.j0 kq l0 l1 a2 Oc=some (r1,r2,r3))∧Aside0 (kq≤k)∧Aside0 (wc.heap[Mb]?=some (.cells #[I L 0,I L 0,I L 0] 29 (0,0)))∧Aside0 (Below w.heap.size w wc))
 case first =>
  have H := HC4.out; clear HC4; obtain ⟨Md, A60, H⟩ := bs_.mp H; (try dsimp only at H); have A6 := D A60; clear A60
  by_cases c7 : Md = true
  ·subst c7
   rw [if_pos rfl] at H; obtain ⟨Od, A80, H⟩ := bs_.mp H; (try dsimp only at H); have A8 := D A80; clear A80
   by_cases c9 : Od = true
   ·subst c9
    rw [if_pos rfl] at H; obtain ⟨Mc, A100, H⟩ := bs_.mp H; (try dsimp only at H); have A10 := D A100; clear A100; have H' := D H; clear H
    go_wp2_with (first|((with_reducible refine gld_ 3 rfl ?_);refine lc3_ ?_)|((with_reducible refine gst_ 36 rfl ?_);refine sa36_ ?_)|((with_reducible refine gld_ 36 rfl ?_);refine la36_ ?_)|((with_reducible refine gate_callee (f:=19) rfl ?_);refine goesL_ (some 11) rfl rfl Try.func19 (by kernel_rfl) rfl #[Y A0 l0.length c0] rfl Z15 ?_;(with_reducible refine (impl_areProfs.calls k _ _ l0 true _ ?side1 ?side2 A6.out).mono ?_);(case side1=>exact pC_ (Kd.C_below HR0.out HB.out));(case side2=>exact HC0.out);rintro e w11 ⟨rfl,hb⟩;refine ⟨_,rfl,?_⟩;have n_:=an_ (blk_below (pk_ Oa.out) hb)<|D (below_step (pB_ HB.out) hb);clear Oa HB;obtain ⟨Oa,HB⟩:=n_;(try clear hb))|(go_at_call 20;(with_reducible refine (impl_ChainOk.calls k _ _ l1 true _ ?side1 ?side2 A8.out).mono ?_);(case side1=>exact pC_ (Kd.C_below HR1.out HB.out));(case side2=>exact HC1.out);rintro e w12 ⟨rfl,hb⟩;have n_:=an_ (blk_below (pk_ Oa.out) hb)<|D (below_step (pB_ HB.out) hb);clear Oa HB;obtain ⟨Oa,HB⟩:=n_;(try clear hb))|(go_at_call 21;(with_reducible refine (impl_isSize.calls a2 Mc _ A10.out).mono ?_);rintro e w' ⟨rfl,⟨nd,rfl⟩⟩))
    go_meet
    case rel => exact ⟨_, (!Mc), Z22, H', ⟨by first | omega | exact Nat.le_refl _⟩, ⟨pk_ Oa.out⟩, ⟨pB_ HB.out⟩⟩
   ·replace c9 := Bool.eq_false_iff.mpr c9
    subst c9; rw [if_neg (show ¬ (false = true) by decide)] at H; have H' := D H; clear H
    go_wp2_with (first|((with_reducible refine gld_ 3 rfl ?_);refine lc3_ ?_)|((with_reducible refine gst_ 36 rfl ?_);refine sa36_ ?_)|((with_reducible refine gld_ 36 rfl ?_);refine la36_ ?_)|((with_reducible refine gate_callee (f:=19) rfl ?_);refine goesL_ (some 11) rfl rfl Try.func19 (by kernel_rfl) rfl #[Y A0 l0.length c0] rfl Z15 ?_;(with_reducible refine (impl_areProfs.calls k _ _ l0 true _ ?side1 ?side2 A6.out).mono ?_);(case side1=>exact pC_ (Kd.C_below HR0.out HB.out));(case side2=>exact HC0.out);rintro e w13 ⟨rfl,hb⟩;refine ⟨_,rfl,?_⟩;have n_:=an_ (blk_below (pk_ Oa.out) hb)<|D (below_step (pB_ HB.out) hb);clear Oa HB;obtain ⟨Oa,HB⟩:=n_;(try clear hb))|(go_at_call 20;(with_reducible refine (impl_ChainOk.calls k _ _ l1 false _ ?side1 ?side2 A8.out).mono ?_);(case side1=>exact pC_ (Kd.C_below HR1.out HB.out));(case side2=>exact HC1.out);rintro e w14 ⟨rfl,hb⟩;have n_:=an_ (blk_below (pk_ Oa.out) hb)<|D (below_step (pB_ HB.out) hb);clear Oa HB;obtain ⟨Oa,HB⟩:=n_;(try clear hb)))
    go_meet
    case rel => exact ⟨_, (true), Z22, H', ⟨by first | omega | exact Nat.le_refl _⟩, ⟨pk_ Oa.out⟩, ⟨pB_ HB.out⟩⟩
  ·replace c7 := Bool.eq_false_iff.mpr c7
   subst c7; rw [if_neg (show ¬ (false = true) by decide)] at H; have H' := D H; clear H
   go_wp2_with (first|((with_reducible refine gld_ 3 rfl ?_);refine lc3_ ?_)|((with_reducible refine gst_ 36 rfl ?_);refine sa36_ ?_)|((with_reducible refine gld_ 36 rfl ?_);refine la36_ ?_)|((with_reducible refine gate_callee (f:=19) rfl ?_);refine goesL_ (some 11) rfl rfl Try.func19 (by kernel_rfl) rfl #[Y A0 l0.length c0] rfl Z15 ?_;(with_reducible refine (impl_areProfs.calls k _ _ l0 false _ ?side1 ?side2 A6.out).mono ?_);(case side1=>exact pC_ (Kd.C_below HR0.out HB.out));(case side2=>exact HC0.out);rintro e w15 ⟨rfl,hb⟩;refine ⟨_,rfl,?_⟩;have n_:=an_ (blk_below (pk_ Oa.out) hb)<|D (below_step (pB_ HB.out) hb);clear Oa HB;obtain ⟨Oa,HB⟩:=n_;(try clear hb)))
   go_meet
   case rel => exact ⟨_, (true), Z22, H', ⟨by first | omega | exact Nat.le_refl _⟩, ⟨pk_ Oa.out⟩, ⟨pB_ HB.out⟩⟩
 case rest =>
  clear HC4
  (try clear c1);(try clear p2);(try clear c7);(try clear c9)
  obtain ⟨kq, Oc, rfl, HA, HJ3, Oa, HB⟩ := hcut
  cases kq with
  | zero => exact absurd HA.out (by simp [impl_ChainCost.j0])
  | succ kj3 =>
   have H := HA.out; clear HA; simp only [impl_ChainCost.j0] at H
   by_cases c16 : Oc = true
   ·subst c16
    rw [if_pos rfl] at H; simp only [Option.some.injEq, Prod.mk.injEq] at H; obtain ⟨rfl, rfl, rfl⟩ := H; obtain ⟨Xe, Jf, Kf, Mf, Of, Uf⟩ := cells3 Oa.out
    go_wp2_with (first|((with_reducible refine gld_ 3 rfl ?_);refine lc3_ ?_)|((with_reducible refine gst_ 36 rfl ?_);refine sa36_ ?_)|((with_reducible refine gld_ 36 rfl ?_);refine la36_ ?_))
    refine bodyPost_ret (results_cell_row rfl _ _ Mb 29 #[I L 0,I L 0,I L 0] (0,0) _ rfl (by exact pP_ Oa.out) Try.underlying29 rfl (by kernel_rfl)) rfl ?_;exact ⟨er_,pB_ HB.out⟩
   ·replace c16 := Bool.eq_false_iff.mpr c16
    subst c16; rw [if_neg (show ¬ (false = true) by decide)] at H; have H' := D H; clear H
    go_wp2_with (first|((with_reducible refine gld_ 3 rfl ?_);refine lc3_ ?_)|((with_reducible refine gst_ 36 rfl ?_);refine sa36_ ?_)|((with_reducible refine gld_ 36 rfl ?_);refine la36_ ?_)|((with_reducible refine gate_dst (N:=7) rfl ?_);refine bx_ (N:=7) (cs:=#[I L 0,I L 0,I L 0]) (t:=29) ?_;intro Kb hg w18 hbox hb;have n_:=an_ (blk_below (pk_ Oa.out) hb)<|an_ (below_step (pB_ HB.out) hb)<|an_ (hbox)<|an_ (bg_ hg (pB_ HB.out):w.heap.size≤Kb)<|an_ (bg_ hg (pB_ HB.out):w.heap.size≤Kb)<|an_ (nl_ hg (pk_ Oa.out):Mb≠Kb)<|D (by rw [hg];exact Nat.ne_of_gt (blk_lt (pk_ Oa.out)):Kb≠Mb);clear Oa HB;obtain ⟨Oa,HB,Ua,Oh,Uh,Jc,Kc⟩:=n_;clear hb hbox hg;(try have:=Kc.out);(try have:=Jc.out);have Xf:=cells3 Ua.out))
    go_loopg [27] kj3 (fun kq v27 w'=>∃ (Ja:Int) (Xb:Int) (Ub:Int) (Ob:Int),v27=I L Ja∧Aside0 (impl_ChainCost.l0 kq l0 a2 l1 (l1.length:Int) Ja Xb Ub Ob=some (r1,r2,r3))∧Aside0 (kq≤kj3)∧Aside0 (w'.heap[Mb]?=some (.cells #[I L 0,I L 0,I L 0] 29 (0,0)))∧Aside0 (w'.heap[Kb]?=some (.cells #[I L Xb,I L Ub,I L Ob] 29 (0,0)))∧Aside0 (Below w.heap.size w w'))
    case atStart=>exact ⟨(0),(0),(0),(0),Z22,H',⟨Nat.le_refl _⟩,⟨pP_ Oa.out⟩,⟨pP_ Ua.out⟩,⟨pB_ HB.out⟩⟩
    case round =>
     clear H'
     (try clear c1);(try clear p2);(try clear c7);(try clear c9);(try clear c16);(try clear c19);(try clear Xe Jf Kf Mf Of Uf);(try clear Xf);(try clear p2)
     obtain ⟨Ja, Xb, Ub, Ob, rfl, HA, HK2, Oa, Ua, HB⟩ := hrel
     cases gk with
     | zero => exact absurd HA.out (by simp [impl_ChainCost.l0])
     | succ k2 =>
      have H := HA.out; clear HA; simp only [impl_ChainCost.l0] at H
      by_cases c21 : Ja < (l1.length : Int)
      ·rw [if_pos c21] at H
       have c21b0 : decide (Ja < (l1.length : Int)) = true := decide_eq_true c21; clear c21
       by_cases c22 : 0 ≤ Ja
       ·rw [if_pos c22] at H
        have c22b0 : decide (0 ≤ Ja) = true := decide_eq_true c22; clear c22
        by_cases c23 : Ja < (l1.length : Int)
        ·rw [if_pos c23] at H
         have c23b0 : decide (Ja < (l1.length : Int)) = true := decide_eq_true c23; clear c23; obtain ⟨ji24, hji24⟩ : ∃ j_ : Int, (wrap64 (((rd_T36 l1 Ja).f0) - 1)) = j_ := ⟨_, rfl⟩
         replace H:(if 0≤(ji24) then (if (ji24) < (l0.length:Int) then ((impl_ProfCost.f ((rd_T43 l0 (ji24)).f0.f0) ((rd_T43 l0 (ji24)).f0.f1) ((rd_T43 l0 (ji24)).f0.f2) ((rd_T43 l0 (ji24)).f1.f0) ((rd_T43 l0 (ji24)).f1.f1) ((rd_T43 l0 (ji24)).f1.f2) a2).bind fun bt715=>((impl_Vec_plus.f Xb Ub Ob bt715.1 bt715.2.1 bt715.2.2).bind fun bt718=>(impl_ChainCost.l0 k2 l0 a2 l1 (l1.length:Int) (wrap64 (Ja + 1)) bt718.1 bt718.2.1 bt718.2.2))) else (none)) else (none))=some (r1,r2,r3):=by first|(rw [hji24] at H;exact H)|(simp only [hji24] at H ⊢;exact H)
         have hji24w : (IntKind.i64.wrap (((rd_T36 l1 Ja).f0) - 1)) = ji24 := (i64_w _).trans hji24
         by_cases c25 : 0 ≤ (ji24)
         ·rw [if_pos c25] at H
          have c25b0 : decide (0 ≤ (ji24)) = true := decide_eq_true c25; clear c25
          by_cases c26 : (ji24) < (l0.length : Int)
          ·rw [if_pos c26] at H
           have c26b0:decide ((ji24) < (l0.length:Int))=true:=decide_eq_true c26;clear c26;obtain ⟨⟨Ud,Xd,Je⟩,A270,H⟩:=bs_.mp H;(try dsimp only at H);have A27:=D A270;clear A270;obtain ⟨⟨Uc,Ke,Oe⟩,A280,H⟩:=bs_.mp H;(try dsimp only at H);have A28:=D A280;clear A280;have H':=D H;clear H;have p712:0≤(Ja:Int):=od_ Z21;have q712:Ja < (l1.length:Int):=od_ Z21;obtain ⟨ad712,e712,hx712_0,hx712_1,hx712_2,hx712_3,hx712_4,hx712_5,hx712_6,hx712_7,hx712_8,hx712_9,hx712_10,hx712_11,hx712_12,hx712_13,hx712_14,hx712_15,hx712_16⟩:=at_T36 HR1.out Ja p712 q712;cases e712;replace hx712_0:=rc_ HB.out hx712_0;replace hx712_1:=rc_ HB.out hx712_1;replace hx712_2:=rc_ HB.out hx712_2;replace hx712_3:=rc_ HB.out hx712_3;replace hx712_4:=rc_ HB.out hx712_4;replace hx712_5:=rc_ HB.out hx712_5;replace hx712_6:=rc_ HB.out hx712_6;replace hx712_7:=rc_ HB.out hx712_7;replace hx712_8:=rc_ HB.out hx712_8;replace hx712_9:=rc_ HB.out hx712_9;replace hx712_10:=rc_ HB.out hx712_10;replace hx712_11:=rc_ HB.out hx712_11;replace hx712_12:=rc_ HB.out hx712_12;replace hx712_13:=rc_ HB.out hx712_13;replace hx712_14:=rc_ HB.out hx712_14;replace hx712_15:=rc_ HB.out hx712_15;replace hx712_16:=rc_ HB.out hx712_16;replace p712:=eq_true p712;replace q712:=eq_true q712
           try go_wp2_with (first|((with_reducible refine gld_ 3 rfl ?_);refine lc3_ ?_)|((with_reducible refine gst_ 36 rfl ?_);refine sa36_ ?_)|((with_reducible refine gld_ 36 rfl ?_);refine la36_ ?_)|((with_reducible refine gate_dst (N:=9) rfl ?_);refine bx_ (N:=9) (cs:=#[I L 0,I L 0,I L 0,I L 0,I L 0,I L 0,I L 0,I L 0,I L 0,I L 0,I L 0,I L 0,I L 0,I L 0,I L 0,I L 0,I L 0]) (t:=36) ?_;intro Ka hg w29 hbox hb;have n_:=an_ (blk_below (pk_ Oa.out) hb)<|an_ (blk_below (pk_ Ua.out) hb)<|an_ (below_step (pB_ HB.out) hb)<|an_ (hbox)<|an_ (bg_ hg (pB_ HB.out):w.heap.size≤Ka)<|an_ (bg_ hg (pB_ HB.out):w.heap.size≤Ka)<|an_ (nl_ hg (pk_ Oa.out):Mb≠Ka)<|an_ (ng_ hg (pk_ Oa.out):Ka≠Mb)<|an_ (nl_ hg (pk_ Ua.out):Kb≠Ka)<|D (by rw [hg];exact Nat.ne_of_gt (blk_lt (pk_ Ua.out)):Ka≠Kb);clear Oa Ua HB;obtain ⟨Oa,Ua,HB,Ma,Xh,Ji,Jb,Xg,Xa,Xc⟩:=n_;clear hb hbox hg;(try have:=Xg.out);(try have:=Jb.out);(try have:=Xc.out);(try have:=Xa.out)))
           have n0_:Aside0 ((((((((((((((((((w29.setCell ⟨Ka,0,none⟩ (I L ((rd_T36 l1 Ja).f0))).setCell ⟨Ka,1,none⟩ (I L ((rd_T36 l1 Ja).f1.f0.f0))).setCell ⟨Ka,2,none⟩ (I L ((rd_T36 l1 Ja).f1.f0.f1))).setCell ⟨Ka,3,none⟩ (I L ((rd_T36 l1 Ja).f1.f0.f2))).setCell ⟨Ka,4,none⟩ (I L ((rd_T36 l1 Ja).f1.f0.f3))).setCell ⟨Ka,5,none⟩ (I L ((rd_T36 l1 Ja).f1.f0.f4))).setCell ⟨Ka,6,none⟩ (I L ((rd_T36 l1 Ja).f1.f1))).setCell ⟨Ka,7,none⟩ (I L ((rd_T36 l1 Ja).f2.f0.f0))).setCell ⟨Ka,8,none⟩ (I L ((rd_T36 l1 Ja).f2.f0.f1))).setCell ⟨Ka,9,none⟩ (I L ((rd_T36 l1 Ja).f2.f0.f2))).setCell ⟨Ka,10,none⟩ (I L ((rd_T36 l1 Ja).f2.f0.f3))).setCell ⟨Ka,11,none⟩ (I L ((rd_T36 l1 Ja).f2.f0.f4))).setCell ⟨Ka,12,none⟩ (I L ((rd_T36 l1 Ja).f2.f1))).setCell ⟨Ka,13,none⟩ (I L ((rd_T36 l1 Ja).f3))).setCell ⟨Ka,14,none⟩ (I L ((rd_T36 l1 Ja).f4))).setCell ⟨Ka,15,none⟩ (I L ((rd_T36 l1 Ja).f5))).setCell ⟨Ka,16,none⟩ (I L ((rd_T36 l1 Ja).f6))).heap[Mb]?=some (.cells #[I L 0,I L 0,I L 0] 29 (0,0))):=⟨pP_ Oa.out⟩;have n1_:Aside0 ((((((((((((((((((w29.setCell ⟨Ka,0,none⟩ (I L ((rd_T36 l1 Ja).f0))).setCell ⟨Ka,1,none⟩ (I L ((rd_T36 l1 Ja).f1.f0.f0))).setCell ⟨Ka,2,none⟩ (I L ((rd_T36 l1 Ja).f1.f0.f1))).setCell ⟨Ka,3,none⟩ (I L ((rd_T36 l1 Ja).f1.f0.f2))).setCell ⟨Ka,4,none⟩ (I L ((rd_T36 l1 Ja).f1.f0.f3))).setCell ⟨Ka,5,none⟩ (I L ((rd_T36 l1 Ja).f1.f0.f4))).setCell ⟨Ka,6,none⟩ (I L ((rd_T36 l1 Ja).f1.f1))).setCell ⟨Ka,7,none⟩ (I L ((rd_T36 l1 Ja).f2.f0.f0))).setCell ⟨Ka,8,none⟩ (I L ((rd_T36 l1 Ja).f2.f0.f1))).setCell ⟨Ka,9,none⟩ (I L ((rd_T36 l1 Ja).f2.f0.f2))).setCell ⟨Ka,10,none⟩ (I L ((rd_T36 l1 Ja).f2.f0.f3))).setCell ⟨Ka,11,none⟩ (I L ((rd_T36 l1 Ja).f2.f0.f4))).setCell ⟨Ka,12,none⟩ (I L ((rd_T36 l1 Ja).f2.f1))).setCell ⟨Ka,13,none⟩ (I L ((rd_T36 l1 Ja).f3))).setCell ⟨Ka,14,none⟩ (I L ((rd_T36 l1 Ja).f4))).setCell ⟨Ka,15,none⟩ (I L ((rd_T36 l1 Ja).f5))).setCell ⟨Ka,16,none⟩ (I L ((rd_T36 l1 Ja).f6))).heap[Kb]?=some (.cells #[I L Xb,I L Ub,I L Ob] 29 (0,0))):=⟨pP_ Ua.out⟩;have n2_:Aside0 ((((((((((((((((((w29.setCell ⟨Ka,0,none⟩ (I L ((rd_T36 l1 Ja).f0))).setCell ⟨Ka,1,none⟩ (I L ((rd_T36 l1 Ja).f1.f0.f0))).setCell ⟨Ka,2,none⟩ (I L ((rd_T36 l1 Ja).f1.f0.f1))).setCell ⟨Ka,3,none⟩ (I L ((rd_T36 l1 Ja).f1.f0.f2))).setCell ⟨Ka,4,none⟩ (I L ((rd_T36 l1 Ja).f1.f0.f3))).setCell ⟨Ka,5,none⟩ (I L ((rd_T36 l1 Ja).f1.f0.f4))).setCell ⟨Ka,6,none⟩ (I L ((rd_T36 l1 Ja).f1.f1))).setCell ⟨Ka,7,none⟩ (I L ((rd_T36 l1 Ja).f2.f0.f0))).setCell ⟨Ka,8,none⟩ (I L ((rd_T36 l1 Ja).f2.f0.f1))).setCell ⟨Ka,9,none⟩ (I L ((rd_T36 l1 Ja).f2.f0.f2))).setCell ⟨Ka,10,none⟩ (I L ((rd_T36 l1 Ja).f2.f0.f3))).setCell ⟨Ka,11,none⟩ (I L ((rd_T36 l1 Ja).f2.f0.f4))).setCell ⟨Ka,12,none⟩ (I L ((rd_T36 l1 Ja).f2.f1))).setCell ⟨Ka,13,none⟩ (I L ((rd_T36 l1 Ja).f3))).setCell ⟨Ka,14,none⟩ (I L ((rd_T36 l1 Ja).f4))).setCell ⟨Ka,15,none⟩ (I L ((rd_T36 l1 Ja).f5))).setCell ⟨Ka,16,none⟩ (I L ((rd_T36 l1 Ja).f6))).heap[Ka]?=some (.cells #[I L ((rd_T36 l1 Ja).f0),I L ((rd_T36 l1 Ja).f1.f0.f0),I L ((rd_T36 l1 Ja).f1.f0.f1),I L ((rd_T36 l1 Ja).f1.f0.f2),I L ((rd_T36 l1 Ja).f1.f0.f3),I L ((rd_T36 l1 Ja).f1.f0.f4),I L ((rd_T36 l1 Ja).f1.f1),I L ((rd_T36 l1 Ja).f2.f0.f0),I L ((rd_T36 l1 Ja).f2.f0.f1),I L ((rd_T36 l1 Ja).f2.f0.f2),I L ((rd_T36 l1 Ja).f2.f0.f3),I L ((rd_T36 l1 Ja).f2.f0.f4),I L ((rd_T36 l1 Ja).f2.f1),I L ((rd_T36 l1 Ja).f3),I L ((rd_T36 l1 Ja).f4),I L ((rd_T36 l1 Ja).f5),I L ((rd_T36 l1 Ja).f6)] 36 (0,0))):=⟨pP_ Ma.out⟩
           have n3_:Aside0 (Below w.heap.size w (((((((((((((((((w29.setCell ⟨Ka,0,none⟩ (I L ((rd_T36 l1 Ja).f0))).setCell ⟨Ka,1,none⟩ (I L ((rd_T36 l1 Ja).f1.f0.f0))).setCell ⟨Ka,2,none⟩ (I L ((rd_T36 l1 Ja).f1.f0.f1))).setCell ⟨Ka,3,none⟩ (I L ((rd_T36 l1 Ja).f1.f0.f2))).setCell ⟨Ka,4,none⟩ (I L ((rd_T36 l1 Ja).f1.f0.f3))).setCell ⟨Ka,5,none⟩ (I L ((rd_T36 l1 Ja).f1.f0.f4))).setCell ⟨Ka,6,none⟩ (I L ((rd_T36 l1 Ja).f1.f1))).setCell ⟨Ka,7,none⟩ (I L ((rd_T36 l1 Ja).f2.f0.f0))).setCell ⟨Ka,8,none⟩ (I L ((rd_T36 l1 Ja).f2.f0.f1))).setCell ⟨Ka,9,none⟩ (I L ((rd_T36 l1 Ja).f2.f0.f2))).setCell ⟨Ka,10,none⟩ (I L ((rd_T36 l1 Ja).f2.f0.f3))).setCell ⟨Ka,11,none⟩ (I L ((rd_T36 l1 Ja).f2.f0.f4))).setCell ⟨Ka,12,none⟩ (I L ((rd_T36 l1 Ja).f2.f1))).setCell ⟨Ka,13,none⟩ (I L ((rd_T36 l1 Ja).f3))).setCell ⟨Ka,14,none⟩ (I L ((rd_T36 l1 Ja).f4))).setCell ⟨Ka,15,none⟩ (I L ((rd_T36 l1 Ja).f5))).setCell ⟨Ka,16,none⟩ (I L ((rd_T36 l1 Ja).f6)))):=⟨pB_ HB.out⟩;(try clear Oa);(try clear Ua);(try clear Ma);(try clear HB);generalize (((((((((((((((((w29.setCell ⟨Ka,0,none⟩ (I L ((rd_T36 l1 Ja).f0))).setCell ⟨Ka,1,none⟩ (I L ((rd_T36 l1 Ja).f1.f0.f0))).setCell ⟨Ka,2,none⟩ (I L ((rd_T36 l1 Ja).f1.f0.f1))).setCell ⟨Ka,3,none⟩ (I L ((rd_T36 l1 Ja).f1.f0.f2))).setCell ⟨Ka,4,none⟩ (I L ((rd_T36 l1 Ja).f1.f0.f3))).setCell ⟨Ka,5,none⟩ (I L ((rd_T36 l1 Ja).f1.f0.f4))).setCell ⟨Ka,6,none⟩ (I L ((rd_T36 l1 Ja).f1.f1))).setCell ⟨Ka,7,none⟩ (I L ((rd_T36 l1 Ja).f2.f0.f0))).setCell ⟨Ka,8,none⟩ (I L ((rd_T36 l1 Ja).f2.f0.f1))).setCell ⟨Ka,9,none⟩ (I L ((rd_T36 l1 Ja).f2.f0.f2))).setCell ⟨Ka,10,none⟩ (I L ((rd_T36 l1 Ja).f2.f0.f3))).setCell ⟨Ka,11,none⟩ (I L ((rd_T36 l1 Ja).f2.f0.f4))).setCell ⟨Ka,12,none⟩ (I L ((rd_T36 l1 Ja).f2.f1))).setCell ⟨Ka,13,none⟩ (I L ((rd_T36 l1 Ja).f3))).setCell ⟨Ka,14,none⟩ (I L ((rd_T36 l1 Ja).f4))).setCell ⟨Ka,15,none⟩ (I L ((rd_T36 l1 Ja).f5))).setCell ⟨Ka,16,none⟩ (I L ((rd_T36 l1 Ja).f6)))=w33 at n0_ n1_ n2_ n3_ ⊢;have Oa:=n0_;have Ua:=n1_;have Ma:=n2_;have HB:=n3_;clear n0_ n1_ n2_ n3_
           have n_ := an_ (blk_drew Oa.out) <| an_ (blk_drew Ua.out) <| an_ (blk_drew Ma.out) <| D (below_drew1 HB.out)
           clear Oa Ua Ma HB;obtain ⟨Oa,Ua,Ma,HB⟩:=n_;have p714:0≤((ji24):Int):=od_ Z21;have q714:(ji24) < (l0.length:Int):=od_ Z21;obtain ⟨ad714,e714,hx714_0,hx714_1,hx714_2,hx714_3,hx714_4,hx714_5⟩:=at_T43 HR0.out (ji24) p714 q714;have hw714_5:=hx714_5;have hw714_4:=hx714_4;have hw714_3:=hx714_3;have hw714_2:=hx714_2;have hw714_1:=hx714_1;have hw714_0:=hx714_0;cases e714;replace hx714_0:=rc_ HB.out hx714_0;replace hx714_1:=rc_ HB.out hx714_1;replace hx714_2:=rc_ HB.out hx714_2;replace hx714_3:=rc_ HB.out hx714_3;replace hx714_4:=rc_ HB.out hx714_4;replace hx714_5:=rc_ HB.out hx714_5;replace p714:=eq_true p714;replace q714:=eq_true q714;refine start_ (n:=11) (S:=fun w'=>w'.cell? ⟨Kb,0,none⟩=some (I L Xb)∧w'.cell? ⟨Kb,1,none⟩=some (I L Ub)∧w'.cell? ⟨Kb,2,none⟩=some (I L Ob)∧w'.cell? ⟨Ka,0,none⟩=some (I L ((rd_T36 l1 Ja).f0))∧w'.cell? ⟨Ka,1,none⟩=some (I L ((rd_T36 l1 Ja).f1.f0.f0))∧w'.cell? ⟨Ka,2,none⟩=some (I L ((rd_T36 l1 Ja).f1.f0.f1))∧w'.cell? ⟨Ka,3,none⟩=some (I L ((rd_T36 l1 Ja).f1.f0.f2))∧w'.cell? ⟨Ka,4,none⟩=some (I L ((rd_T36 l1 Ja).f1.f0.f3))∧w'.cell? ⟨Ka,5,none⟩=some (I L ((rd_T36 l1 Ja).f1.f0.f4))∧w'.cell? ⟨Ka,6,none⟩=some (I L ((rd_T36 l1 Ja).f1.f1))∧w'.cell? ⟨Ka,7,none⟩=some (I L ((rd_T36 l1 Ja).f2.f0.f0))∧w'.cell? ⟨Ka,8,none⟩=some (I L ((rd_T36 l1 Ja).f2.f0.f1))∧w'.cell? ⟨Ka,9,none⟩=some (I L ((rd_T36 l1 Ja).f2.f0.f2))∧w'.cell? ⟨Ka,10,none⟩=some (I L ((rd_T36 l1 Ja).f2.f0.f3))∧w'.cell? ⟨Ka,11,none⟩=some (I L ((rd_T36 l1 Ja).f2.f0.f4))∧w'.cell? ⟨Ka,12,none⟩=some (I L ((rd_T36 l1 Ja).f2.f1))∧w'.cell? ⟨Ka,13,none⟩=some (I L ((rd_T36 l1 Ja).f3))∧w'.cell? ⟨Ka,14,none⟩=some (I L ((rd_T36 l1 Ja).f4))∧w'.cell? ⟨Ka,15,none⟩=some (I L ((rd_T36 l1 Ja).f5))∧w'.cell? ⟨Ka,16,none⟩=some (I L ((rd_T36 l1 Ja).f6))∧w'.cell? (ad714.add (((ji24)).toNat * 6))=some (I L ((rd_T43 l0 (ji24)).f0.f0))∧w'.cell? ⟨(ad714.add (((ji24)).toNat * 6)).block,(ad714.add (((ji24)).toNat * 6)).off + 1,none⟩=some (I L ((rd_T43 l0 (ji24)).f0.f1))∧w'.cell? ⟨(ad714.add (((ji24)).toNat * 6)).block,(ad714.add (((ji24)).toNat * 6)).off + 2,none⟩=some (I L ((rd_T43 l0 (ji24)).f0.f2))∧w'.cell? ⟨(ad714.add (((ji24)).toNat * 6)).block,(ad714.add (((ji24)).toNat * 6)).off + 3,none⟩=some (I L ((rd_T43 l0 (ji24)).f1.f0))∧w'.cell? ⟨(ad714.add (((ji24)).toNat * 6)).block,(ad714.add (((ji24)).toNat * 6)).off + 4,none⟩=some (I L ((rd_T43 l0 (ji24)).f1.f1))∧w'.cell? ⟨(ad714.add (((ji24)).toNat * 6)).block,(ad714.add (((ji24)).toNat * 6)).off + 5,none⟩=some (I L ((rd_T43 l0 (ji24)).f1.f2))) (ds:=[10]) (bz 11 0) (by kernel_rfl) rfl (by kernel_rfl) (bk3_ Ua.out (bk17_ Ma.out (re6_ HB.out hw714_0 hw714_1 hw714_2 hw714_3 hw714_4 hw714_5))) (fun hHeld=>?_);refine with_tabW impl_ChainCost.tab7 impl_ChainCost.bits7 (fun HT_ HW_=>?_)
           generalize w33.drew=w34 at Oa Ua Ma HB hx714_0 hx714_1 hx714_2 hx714_3 hx714_4 hx714_5 hHeld ⊢;refine pb_ 1 ?_;refine pb_ 2 ?_;refine pb_ 7 ?_;refine tb_ 0 rfl rfl hHeld Z14 ?_;refine tb_ 3 rfl rfl hHeld Z14 ?_;refine pb_ 4 ?_;refine pb_ 5 ?_;refine tb_ 6 rfl rfl hHeld Z14 ?_;refine oa_ 8 39 11 511 HT_ (fun K hK=>?_);refine goes_ Try.func23 (by kernel_rfl) rfl #[.agg #[I L ((rd_T43 l0 (ji24)).f0.f0),I L ((rd_T43 l0 (ji24)).f0.f1),I L ((rd_T43 l0 (ji24)).f0.f2),I L ((rd_T43 l0 (ji24)).f1.f0),I L ((rd_T43 l0 (ji24)).f1.f1),I L ((rd_T43 l0 (ji24)).f1.f2)],I L a2] (by rfl) rfl rfl (by (try simp only [List.map_toArray,List.map_cons,List.map_nil]);first|done|(simp only [hji24];rfl)|rfl|(simp only [List.length_drop,List.length_take];rfl)) ?_;with_reducible refine (impl_ProfCost.calls ((rd_T43 l0 (ji24)).f0.f0) ((rd_T43 l0 (ji24)).f0.f1) ((rd_T43 l0 (ji24)).f0.f2) ((rd_T43 l0 (ji24)).f1.f0) ((rd_T43 l0 (ji24)).f1.f1) ((rd_T43 l0 (ji24)).f1.f2) a2 Ud Xd Je _ A27.out).mono ?_
           rintro e w35 ⟨rfl, hb⟩; refine ⟨_, rfl, ?_⟩
           have n_ := an_ (blk_below (pk_ Oa.out) hb) <| an_ (blk_below (pk_ Ua.out) hb) <| an_ (blk_below (pk_ Ma.out) hb) <| D (below_step (pB_ HB.out) hb)
           clear Oa Ua Ma HB;obtain ⟨Oa,Ua,Ma,HB⟩:=n_;refine hK.out _ _ (bk3_ Ua.out (bk17_ Ma.out (re6_ HB.out hw714_0 hw714_1 hw714_2 hw714_3 hw714_4 hw714_5))) (fun hHeld=>?_);clear hK K;refine nx_ (N:=some 39) ?_;refine oa_ 9 40 11 1023 HT_ (fun K hK=>?_);refine goes_ Try.func22 (by kernel_rfl) rfl #[.agg #[I L Xb,I L Ub,I L Ob],.agg #[I L Ud,I L Xd,I L Je]] (by rfl) rfl rfl Z15 ?_;with_reducible refine (impl_Vec_plus.calls Xb Ub Ob Ud Xd Je Uc Ke Oe _ A28.out).mono ?_
           rintro e w36 ⟨rfl, hb⟩; refine ⟨_, rfl, ?_⟩
           have n_ := an_ (blk_below (pk_ Oa.out) hb) <| an_ (blk_below (pk_ Ua.out) hb) <| an_ (blk_below (pk_ Ma.out) hb) <| D (below_step (pB_ HB.out) hb)
           clear Oa Ua Ma HB;obtain ⟨Oa,Ua,Ma,HB⟩:=n_;refine hK.out _ _ (bk3_ Ua.out (bk17_ Ma.out (re6_ HB.out hw714_0 hw714_1 hw714_2 hw714_3 hw714_4 hw714_5))) (fun hHeld=>?_);clear hK K;refine nx_ (N:=some 40) ?_;refine last_ (i:=10) (N:=none) (bz 11 2047) rfl rfl (one_of HT_.out (by kernel_rfl)) (by decide) (fun K hK=>?_);have hs37:w36.cell? ⟨Kb,0,none⟩=some (I L Xb):=bc_ Ua.out 0;have hfs37:=blk_frozen Ua.out 0;have hns37_0:=Jc.out;have hns37_2:=Xc.out;have hms37_0:=Kc.out;have hms37_2:=Xa.out;have hs38:w36.cell? ⟨Kb,1,none⟩=some (I L Ub):=bc_ Ua.out 1;have hfs38:=blk_frozen Ua.out 1;have hns38_0:=Jc.out;have hns38_2:=Xc.out;have hms38_0:=Kc.out;have hms38_2:=Xa.out;have hs39:w36.cell? ⟨Kb,2,none⟩=some (I L Ob):=bc_ Ua.out 2;have hfs39:=blk_frozen Ua.out 2;have hns39_0:=Jc.out;have hns39_2:=Xc.out;have hms39_0:=Kc.out;have hms39_2:=Xa.out;refine skip_ (w1:=?_) (by rfl) rfl ?_ ?_;rotate_left
           ·go_simp
            rfl
           refine hK.out _ _ ?_; clear hK K; refine done_ (done_of HT_.out (by kernel_rfl)) ?_
           try go_wp2_with (first|((with_reducible refine gld_ 3 rfl ?_);refine lc3_ ?_)|((with_reducible refine gst_ 36 rfl ?_);refine sa36_ ?_)|((with_reducible refine gld_ 36 rfl ?_);refine la36_ ?_))
           go_roundg k2
           case measure => have := HJ3.out; have := HK2.out; omega
           case rel=>exact ⟨(wrap64 (Ja + 1)),(Uc),(Ke),(Oe),Z22,H',⟨by have:=HJ3.out;have:=HK2.out;omega⟩,⟨pP_ Oa.out⟩,⟨pP_ Ua.out⟩,⟨pB_ HB.out⟩⟩
          ·rw [if_neg c26] at H
           exact absurd H (by simp)
         ·rw [if_neg c25] at H
          exact absurd H (by simp)
        ·rw [if_neg c23] at H
         exact absurd H (by simp)
       ·rw [if_neg c22] at H
        exact absurd H (by simp)
      ·rw [if_neg c21] at H
       have c21b0:decide (Ja < (l1.length:Int))=false:=decide_eq_false c21;clear c21;obtain ⟨⟨Jd,Me,Ue⟩,A400,H⟩:=bs_.mp H;(try dsimp only at H);have A40:=D A400;clear A400;simp only [Option.some.injEq,Prod.mk.injEq] at H;obtain ⟨rfl,rfl,rfl⟩:=H;(try have:=Kc.out);(try have:=Jc.out);have Xo:=cells3 Ua.out
       go_wp2_with (first|((with_reducible refine gld_ 3 rfl ?_);refine lc3_ ?_)|((with_reducible refine gst_ 36 rfl ?_);refine sa36_ ?_)|((with_reducible refine gld_ 36 rfl ?_);refine la36_ ?_)|((with_reducible refine gate_callee (f:=24) rfl ?_);refine goesL_ (some 43) rfl rfl Try.func24 (by kernel_rfl) rfl #[.agg #[I L Xb,I L Ub,I L Ob],.func (.func 25) #[] #[]] rfl Z15 ?_;(with_reducible refine (impl_Vec_each.calls Xb Ub Ob (fun z0_=>impl_ChainCost_1.f z0_) 25 #[] Jd Me Ue _ ?side1 ?side2 A40.out).mono ?_);(case side1=>exact ⟨⟨_,Try.func25,by kernel_rfl,rfl⟩⟩);(case side2=>refine ⟨?_⟩;intro a900 rr0_ W_ hW_ h_;refine calls_of_args (args':=#[I L a900]) (by simp) ?_;refine (impl_ChainCost_1.calls a900  rr0_ W_ h_).mono ?_;rintro e w' ⟨rfl,hd_⟩;exact ⟨rfl,hd_.below⟩);rintro e w43 ⟨rfl,hb⟩;refine ⟨_,rfl,?_⟩;have n_:=an_ (blk_below (pk_ Oa.out) hb)<|an_ (blk_below (pk_ Ua.out) hb)<|D (below_step (pB_ HB.out) hb);clear Oa Ua HB;obtain ⟨Oa,Ua,HB⟩:=n_;(try clear hb);have Xp:=cells3 Oa.out))
       refine bodyPost_ret (results_cell_row rfl _ _ Mb 29 #[I L Jd,I L Me,I L Ue] (0,0) _ rfl (by exact pP_ Oa.out) Try.underlying29 rfl (by kernel_rfl)) rfl ?_;exact ⟨er_,pB_ HB.out⟩

/-! ### laws_FnCostAdds: function 3 -/
mutual
def laws_FnCostAdds.l0 : Nat → List (S43) → List (S36) → Int → List (S36) → Int → Int → Int → Int → Option (Bool)
 | 0, _, _, _, _, _, _, _, _ => none
 | k + 1,x3,x4,x5,x7,x8,x736000,x736001,x736002=>if x8 < (x4.length:Int) then (if 0≤x8 then ((some (([(⟨(rd_T36 x4 x8).f0,(⟨(⟨(rd_T36 x4 x8).f1.f0.f0,(rd_T36 x4 x8).f1.f0.f1,(rd_T36 x4 x8).f1.f0.f2,(rd_T36 x4 x8).f1.f0.f3,(rd_T36 x4 x8).f1.f0.f4⟩:S32),(rd_T36 x4 x8).f1.f1⟩:S34),(⟨(⟨(rd_T36 x4 x8).f2.f0.f0,(rd_T36 x4 x8).f2.f0.f1,(rd_T36 x4 x8).f2.f0.f2,(rd_T36 x4 x8).f2.f0.f3,(rd_T36 x4 x8).f2.f0.f4⟩:S32),(rd_T36 x4 x8).f2.f1⟩:S34),(rd_T36 x4 x8).f3,(rd_T36 x4 x8).f4,(rd_T36 x4 x8).f5,(rd_T36 x4 x8).f6⟩:S36)]:List (S36)):List (S36))).bind fun y740=>(if y740.length + x7.length < 1034834473200 then (laws_FnCostAdds.l0 k x3 x4 x5 (y740 ++ x7) (wrap64 (x8 + 1)) x736000 x736001 x736002) else (none))) else (none)) else ((impl_ChainCost.f k x3 x7 x5).bind fun bt746=>(if (!(bt746.1 == x736000) || (!(bt746.2.1 == x736001) || (!(bt746.2.2 == x736002))))=true then (laws_FnCostAdds.j1 k x3 x4 x5 true x736000 x736001 x736002) else ((impl_ChainCost.f k x3 x4 x5).bind fun bt749=>(laws_FnCostAdds.j1 k x3 x4 x5 (!(bt749.1 == x736000) || (!(bt749.2.1 == x736001) || (!(bt749.2.2 == x736002)))) x736000 x736001 x736002))))
def laws_FnCostAdds.j1 : Nat → List (S43) → List (S36) → Int → Bool → Int → Int → Int → Option (Bool)
 | 0, _, _, _, _, _, _, _ => none
 | k + 1,x3,x4,x5,x49,x736000,x736001,x736002=>if x49=true then (some false) else (if (x736000 == 0 && (x736001 == 0 && (x736002 == 0)))=true then (some true) else (if x5=1600 then (some true) else ((impl_ChainCost.f k x3 x4 (wrap64 (x5 + 1))).bind fun bt752=>(if bt752.1 ≥ x736000 then (if bt752.2.1 ≥ x736001 then (some (decide (bt752.2.2 ≥ x736002))) else (some false)) else (some false)))))
end
def laws_FnCostAdds.f (k : Nat) (l0 : List Int) : Option (Bool) := (laws_big.f l0).bind fun Jh => (if Jh = true then (some true) else ((spec_DrawChainCost.f k l0).bind fun bt725 => ((spec_ChainCost.f k bt725.1 bt725.2.1 bt725.2.2).bind fun bt732 => (laws_FnCostAdds.l0 k bt725.1 bt725.2.1 bt725.2.2 (([] : List (S36))) 0 bt732.1 bt732.2.1 bt732.2.2))))
def laws_FnCostAdds.T10 : Bool × List (List Nat × List Nat) := (true, [([], []), ([], []), ([], []), ([0, 1, 2], [0, 1, 2]), ([], []), ([3, 4], [3, 4]), ([5, 3], [5]), ([6], [6]), ([6], [6]), ([6], [6]), ([7, 8, 9, 6, 6], [6, 7, 8, 9]), ([6], [6]), ([10, 11, 6], [6, 10, 11]), ([6, 12], [6, 12])])
def laws_FnCostAdds.B10 : List Nat := [0, 0, 0, 7, 0, 31, 63, 127, 127, 127, 1023, 127, 4095, 8191]
theorem laws_FnCostAdds.tab10 : rtab .any (opsOf Try.f3 10) = laws_FnCostAdds.T10 := by kernel_rfl
theorem laws_FnCostAdds.bits10 : waitsOk laws_FnCostAdds.T10.2 laws_FnCostAdds.B10 = true := by kernel_rfl
set_option maxHeartbeats 8000000 in
set_option maxRecDepth 100000 in
theorem laws_FnCostAdds.calls (k : Nat) (A0 : Option Addr) (c0 : Nat) (l0 : List Int) (r : Bool) (w : World) (hr0 : Kd.C (Kd.int .u8) w A0 l0.length l0) (hc0 : l0.length ≤ c0) (hr_ : Aside0 (r = true)) (h : laws_FnCostAdds.f k l0 = some r) :
  Calls Try.prog 3 #[Y A0 l0.length c0] w fun e w' => e = .returned (.bool r) ∧ Below w.heap.size w w' := by
 have hu29 := Try.underlying29
 have hu36 := Try.underlying36
 have HR0 := D hr0
 have HC0 := D hc0
 clear hr0 hc0
 have HB := D (Below.refl w.heap.size w)
 have H:((laws_big.f l0).bind fun Xd=>(if Xd=true then (some true) else ((spec_DrawChainCost.f k l0).bind fun bt725=>((spec_ChainCost.f k bt725.1 bt725.2.1 bt725.2.2).bind fun bt732=>(laws_FnCostAdds.l0 k bt725.1 bt725.2.1 bt725.2.2 (([]:List (S36))) 0 bt732.1 bt732.2.1 bt732.2.2)))))=some r:=h
 clear h
 obtain ⟨Xd, A20, H⟩ := bs_.mp H
 (try dsimp only at H)
 have A2 := D A20
 clear A20
 have HU3 := D H
 clear H
 go_enter Try.func3, Try.ntmps3
 go_upto_if 11 with (first|((with_reducible refine gate_callee (f:=4) rfl ?_);refine goesL_ (some 11) rfl rfl Try.func4 (by kernel_rfl) rfl #[Y A0 l0.length c0] rfl Z15 ?_;(with_reducible refine (laws_big.calls _ _ l0 Xd _ ?side1 ?side2 A2.out).mono ?_);(case side1=>exact pC_ HR0.out);(case side2=>exact HC0.out);rintro e w' ⟨rfl,⟨nd,rfl⟩⟩;refine ⟨_,rfl,?_⟩)|((with_reducible refine gbs_ 25 rfl ?_);refine bs25_ ?_))
 have H := HU3.out
 clear HU3
 by_cases c4 : Xd = true
 ·subst c4
  rw [if_pos rfl] at H; obtain rfl := Option.some.inj H
  go_wp2_with (first|((with_reducible refine gbs_ 25 rfl ?_);refine bs25_ ?_))
  go_ret; exact ⟨er_, pB_ HB.out⟩
 ·replace c4 := Bool.eq_false_iff.mpr c4
  subst c4;rw [if_neg (show ¬ (false=true) by decide)] at H;obtain ⟨⟨Ob,Ja,Mb⟩,A50,H⟩:=bs_.mp H;(try dsimp only at H);have A5:=D A50;clear A50;obtain ⟨⟨Xa,Jb,Kb⟩,A60,H⟩:=bs_.mp H;(try dsimp only at H);have A6:=D A60;clear A60;obtain ⟨y736,hy736⟩:∃ y_:List (S36),y_=(([]:List (S36))):=⟨_,rfl⟩
  replace H:(laws_FnCostAdds.l0 k Ob Ja Mb y736 0 Xa Jb Kb)=some r:=by first|(rw [hy736];with_reducible exact H)|(have H2_:=(Option.bind_some _ _).symm.trans H;rw [hy736];with_reducible exact H2_)|(have H2_:=(Option.bind_some _ _).symm.trans H;with_reducible exact H2_)|with_reducible exact H|(rw [hy736];exact H)|exact H
  have Ny736 := D hy736; clear hy736; have H' := D H; clear H
  go_wp2_with (first|((with_reducible refine gate_callee (f:=5) rfl ?_);refine goesL_ (some 14) rfl rfl Try.func5 (by kernel_rfl) rfl #[Y A0 l0.length c0] rfl Z15 ?_;(with_reducible refine (spec_DrawChainCost.calls k _ _ l0 Ob Ja Mb _ ?side1 ?side2 A5.out).mono ?_);(case side1=>exact pC_ (Kd.C_below HR0.out HB.out));(case side2=>exact HC0.out);rintro e w7 ⟨Ki,Mi,rfl,ho0,ho1,hb⟩;refine ⟨_,rfl,?_⟩;have n_:=an_ (Kd.R_lower ho0 (below_size (pB_ HB.out)))<|an_ (Kd.R_lower ho1 (below_size (pB_ HB.out)))<|D (below_step (pB_ HB.out) hb);clear HB;obtain ⟨Jc,Xb,HB⟩:=n_;(try clear hb);(try clear ho0);(try clear ho1);obtain ⟨Mc,Oc,eo8⟩:=Kd.R_slice Jc.out;subst eo8;obtain ⟨Xc,Kc,eo9⟩:=Kd.R_slice Xb.out;subst eo9)|((with_reducible refine gate_callee (f:=6) rfl ?_);refine goesL_ (some 21) rfl rfl Try.func6 (by kernel_rfl) rfl #[Y Mc Ob.length Oc,Y Xc Ja.length Kc,I L Mb] rfl Z15 ?_;(with_reducible refine (spec_ChainCost.calls k _ _ Ob _ _ Ja Mb Xa Jb Kb _ ?side1 ?side2 ?side3 ?side4 A6.out).mono ?_);(case side1=>exact pC_ ((Kd.R_reads' Jc.out).2.2));(case side2=>exact (Kd.R_reads' Jc.out).2.1);(case side3=>exact pC_ ((Kd.R_reads' Xb.out).2.2));(case side4=>exact (Kd.R_reads' Xb.out).2.1);rintro e w10 ⟨rfl,hb⟩;refine ⟨_,rfl,?_⟩;have n_:=an_ (Kd.R_below (pR_ Jc.out) hb)<|an_ (Kd.R_below (pR_ Xb.out) hb)<|D (below_step (pB_ HB.out) hb);clear Jc Xb HB;obtain ⟨Jc,Xb,HB⟩:=n_;(try clear hb))|((with_reducible refine gate_dst (N:=6) rfl ?_);refine bx_ (N:=6) (cs:=#[I L 0,I L 0,I L 0]) (t:=29) ?_;intro Ub hg w11 hbox hb;have n_:=an_ (Kd.R_below (pR_ Jc.out) hb)<|an_ (Kd.R_below (pR_ Xb.out) hb)<|an_ (below_step (pB_ HB.out) hb)<|an_ (hbox)<|an_ (bg_ hg (pB_ HB.out):w.heap.size≤Ub)<|D (bg_ hg (pB_ HB.out):w.heap.size≤Ub);clear Jc Xb HB;obtain ⟨Jc,Xb,HB,Ka,Oi,Ui⟩:=n_;clear hb hbox hg;have Ue:=cells3 Ka.out)|((with_reducible refine gate_dst (N:=22) rfl ?_);refine Kd.R_lit k36 _ 36 ?hg (N:=22) ?hd (xs:=([]:List (S36))) (inner:=[]) (ok:=fun _=>True) (okp:=fun _=>True) ?hr ?hp (fun _ hk=>hk) trivial (Below.refl _ _) (Nat.le_refl _) (by simp) ?_;(case hd=>rfl);(case hg=>rfl);(case hr=>first|exact bw25_ rfl rfl|(go_simp;done)|(go_simp;rfl));(case hp=>exact (Reps.none _ _));intro Xi w13 ho14 hb hg_ hnew_;clear hg_ hnew_;(first|rw [← Ny736.out] at ho14|(simp only [Int.reduceToNat] at ho14;rw [← Ny736.out] at ho14));have n_:=an_ (Kd.R_below (rM_ (Kd.R_types Jc.out Ka.out (by decide)) (fun _ h_=>h_.1)) hb)<|an_ (Kd.R_elder' (rM_ (Kd.R_types Xb.out Ka.out (by decide)) (fun _ h_=>h_.1)) (Kd.R_base ho14) hb)<|an_ (Kd.R_lower (nw_ ho14 (rM_ (Kd.R_types Xb.out Ka.out (by decide)) (fun _ h_=>h_.1))) (below_size (pB_ HB.out)))<|an_ (blk_below (g:=Ub) (o:=.cells #[I L Xa,I L Jb,I L Kb] 29 (0,0)) (by exact pP_ Ka.out) hb)<|D (below_step (pB_ HB.out) hb);clear Jc Xb Ka HB;obtain ⟨Jc,Xb,Og,Ka,HB⟩:=n_;clear hb ho14)|((with_reducible refine gbs_ 25 rfl ?_);refine bs25_ ?_))
  go_loopg [7,8] k (fun kq v7 v8 w'=>∃ (x7_1:List (S36)) (x8_1:Int),v8=I L x8_1∧Aside0 (laws_FnCostAdds.l0 kq Ob Ja Mb x7_1 x8_1 Xa Jb Kb=some r)∧Aside0 (kq≤k)∧Aside0 (Kd.R k43 43 w' w.heap.size (fun _=>True) (Y Mc Ob.length Oc) Ob)∧Aside0 (Kd.R k36 36 w' w.heap.size (fun k_=>some k_≠(v7:Value).ownBlock) (Y Xc Ja.length Kc) Ja)∧Aside0 (Kd.R k36 36 w' w.heap.size (fun k_=>some k_≠((Y Xc Ja.length Kc):Value).ownBlock) v7 x7_1)∧Aside0 (w'.heap[Ub]?=some (.cells #[I L Xa,I L Jb,I L Kb] 29 (0,0)))∧Aside0 (Below w.heap.size w w'))
  case atStart => exact ⟨(y736), (0), Z22, H', ⟨Nat.le_refl _⟩, ⟨pR_ Jc.out⟩, ⟨pR_ (Kd.R_mono Xb.out (fun _ hk => hk.2))⟩, ⟨pR_ (Kd.R_mono Og.out (fun _ hk => hk.2))⟩, ⟨pk_ Ka.out⟩, ⟨pB_ HB.out⟩⟩
  case round =>
   clear H'
   (try clear p2);(try clear c3);(try clear c4);(try clear c5);(try clear c6);(try clear Ue)
   obtain ⟨x7_1, x8_1, rfl, HA, HK1, Ma, Oa, Ua, Ka, HB⟩ := hrel
   cases gk with
   | zero => exact absurd HA.out (by simp [laws_FnCostAdds.l0])
   | succ k1 =>
    have H := HA.out; clear HA; simp only [laws_FnCostAdds.l0] at H
    by_cases c15 : x8_1 < (Ja.length : Int)
    ·rw [if_pos c15] at H
     have c15b0:decide (x8_1 < (Ja.length:Int))=true:=decide_eq_true c15;clear c15;refine rw_ c15b0 ?_
     by_cases c16 : 0 ≤ x8_1
     ·rw [if_pos c16] at H
      have c16b0:decide (0≤x8_1)=true:=decide_eq_true c16;clear c16;obtain ⟨y740,hy740⟩:∃ y_:List (S36),y_=(([(⟨(rd_T36 Ja x8_1).f0,(⟨(⟨(rd_T36 Ja x8_1).f1.f0.f0,(rd_T36 Ja x8_1).f1.f0.f1,(rd_T36 Ja x8_1).f1.f0.f2,(rd_T36 Ja x8_1).f1.f0.f3,(rd_T36 Ja x8_1).f1.f0.f4⟩:S32),(rd_T36 Ja x8_1).f1.f1⟩:S34),(⟨(⟨(rd_T36 Ja x8_1).f2.f0.f0,(rd_T36 Ja x8_1).f2.f0.f1,(rd_T36 Ja x8_1).f2.f0.f2,(rd_T36 Ja x8_1).f2.f0.f3,(rd_T36 Ja x8_1).f2.f0.f4⟩:S32),(rd_T36 Ja x8_1).f2.f1⟩:S34),(rd_T36 Ja x8_1).f3,(rd_T36 Ja x8_1).f4,(rd_T36 Ja x8_1).f5,(rd_T36 Ja x8_1).f6⟩:S36)]:List (S36))):=⟨_,rfl⟩
      replace H:(if y740.length + x7_1.length < 1034834473200 then (laws_FnCostAdds.l0 k1 Ob Ja Mb (y740 ++ x7_1) (wrap64 (x8_1 + 1)) Xa Jb Kb) else (none))=some r:=by first|(rw [hy740];with_reducible exact H)|(have H2_:=(Option.bind_some _ _).symm.trans H;rw [hy740];with_reducible exact H2_)|(have H2_:=(Option.bind_some _ _).symm.trans H;with_reducible exact H2_)|with_reducible exact H|(rw [hy740];exact H)|exact H
      have Ny740 := D hy740; clear hy740
      by_cases c17 : y740.length + x7_1.length < 1034834473200
      ·rw [if_pos c17] at H
       have LMc17 := D c17; clear c17; obtain ⟨y743, hy743⟩ : ∃ y_ : List (S36), y_ = (y740 ++ x7_1) := ⟨_, rfl⟩
       replace H:(laws_FnCostAdds.l0 k1 Ob Ja Mb y743 (wrap64 (x8_1 + 1)) Xa Jb Kb)=some r:=by first|(rw [hy743];with_reducible exact H)|(have H2_:=(Option.bind_some _ _).symm.trans H;rw [hy743];with_reducible exact H2_)|(have H2_:=(Option.bind_some _ _).symm.trans H;with_reducible exact H2_)|with_reducible exact H|(rw [hy743];exact H)|exact H
       have Ny743:=D hy743;clear hy743;have H':=D H;clear H;have p739:0≤(x8_1:Int):=od_ Z21;have q739:x8_1 < (Ja.length:Int):=od_ Z21;obtain ⟨ad739,e739,hx739_0,hx739_1,hx739_2,hx739_3,hx739_4,hx739_5,hx739_6,hx739_7,hx739_8,hx739_9,hx739_10,hx739_11,hx739_12,hx739_13,hx739_14,hx739_15,hx739_16⟩:=at_T36 (Kd.R_reads' Oa.out).2.2 x8_1 p739 q739;cases e739;replace p739:=eq_true p739;replace q739:=eq_true q739
       go_wp2_with (first|((with_reducible refine gate_dst (N:=33) rfl ?_);refine Kd.R_lit k36 _ 36 ?hg (N:=33) ?hd (xs:=([(⟨(rd_T36 Ja x8_1).f0,(⟨(⟨(rd_T36 Ja x8_1).f1.f0.f0,(rd_T36 Ja x8_1).f1.f0.f1,(rd_T36 Ja x8_1).f1.f0.f2,(rd_T36 Ja x8_1).f1.f0.f3,(rd_T36 Ja x8_1).f1.f0.f4⟩:S32),(rd_T36 Ja x8_1).f1.f1⟩:S34),(⟨(⟨(rd_T36 Ja x8_1).f2.f0.f0,(rd_T36 Ja x8_1).f2.f0.f1,(rd_T36 Ja x8_1).f2.f0.f2,(rd_T36 Ja x8_1).f2.f0.f3,(rd_T36 Ja x8_1).f2.f0.f4⟩:S32),(rd_T36 Ja x8_1).f2.f1⟩:S34),(rd_T36 Ja x8_1).f3,(rd_T36 Ja x8_1).f4,(rd_T36 Ja x8_1).f5,(rd_T36 Ja x8_1).f6⟩:S36)]:List (S36))) (inner:=[I L ((rd_T36 Ja x8_1).f0),I L ((rd_T36 Ja x8_1).f1.f0.f0),I L ((rd_T36 Ja x8_1).f1.f0.f1),I L ((rd_T36 Ja x8_1).f1.f0.f2),I L ((rd_T36 Ja x8_1).f1.f0.f3),I L ((rd_T36 Ja x8_1).f1.f0.f4),I L ((rd_T36 Ja x8_1).f1.f1),I L ((rd_T36 Ja x8_1).f2.f0.f0),I L ((rd_T36 Ja x8_1).f2.f0.f1),I L ((rd_T36 Ja x8_1).f2.f0.f2),I L ((rd_T36 Ja x8_1).f2.f0.f3),I L ((rd_T36 Ja x8_1).f2.f0.f4),I L ((rd_T36 Ja x8_1).f2.f1),I L ((rd_T36 Ja x8_1).f3),I L ((rd_T36 Ja x8_1).f4),I L ((rd_T36 Ja x8_1).f5),I L ((rd_T36 Ja x8_1).f6)]) (ok:=fun _=>True) (okp:=fun _=>True) ?hr ?hp (fun _ hk=>hk) trivial (Below.refl _ _) (Nat.le_refl _) (by simp) ?_;(case hd=>rfl);(case hg=>rfl);(case hr=>first|exact bw25_ rfl rfl|(go_simp;done)|(go_simp;rfl));(case hp=>exact (Reps.front (show Kd.M k36 _ _ _ (⟨(rd_T36 Ja x8_1).f0,(⟨(⟨(rd_T36 Ja x8_1).f1.f0.f0,(rd_T36 Ja x8_1).f1.f0.f1,(rd_T36 Ja x8_1).f1.f0.f2,(rd_T36 Ja x8_1).f1.f0.f3,(rd_T36 Ja x8_1).f1.f0.f4⟩:S32),(rd_T36 Ja x8_1).f1.f1⟩:S34),(⟨(⟨(rd_T36 Ja x8_1).f2.f0.f0,(rd_T36 Ja x8_1).f2.f0.f1,(rd_T36 Ja x8_1).f2.f0.f2,(rd_T36 Ja x8_1).f2.f0.f3,(rd_T36 Ja x8_1).f2.f0.f4⟩:S32),(rd_T36 Ja x8_1).f2.f1⟩:S34),(rd_T36 Ja x8_1).f3,(rd_T36 Ja x8_1).f4,(rd_T36 Ja x8_1).f5,(rd_T36 Ja x8_1).f6⟩:S36) [I L ((rd_T36 Ja x8_1).f0),I L ((rd_T36 Ja x8_1).f1.f0.f0),I L ((rd_T36 Ja x8_1).f1.f0.f1),I L ((rd_T36 Ja x8_1).f1.f0.f2),I L ((rd_T36 Ja x8_1).f1.f0.f3),I L ((rd_T36 Ja x8_1).f1.f0.f4),I L ((rd_T36 Ja x8_1).f1.f1),I L ((rd_T36 Ja x8_1).f2.f0.f0),I L ((rd_T36 Ja x8_1).f2.f0.f1),I L ((rd_T36 Ja x8_1).f2.f0.f2),I L ((rd_T36 Ja x8_1).f2.f0.f3),I L ((rd_T36 Ja x8_1).f2.f0.f4),I L ((rd_T36 Ja x8_1).f2.f1),I L ((rd_T36 Ja x8_1).f3),I L ((rd_T36 Ja x8_1).f4),I L ((rd_T36 Ja x8_1).f5),I L ((rd_T36 Ja x8_1).f6)] from (k36_mkM _ _ _ (⟨(rd_T36 Ja x8_1).f0,(⟨(⟨(rd_T36 Ja x8_1).f1.f0.f0,(rd_T36 Ja x8_1).f1.f0.f1,(rd_T36 Ja x8_1).f1.f0.f2,(rd_T36 Ja x8_1).f1.f0.f3,(rd_T36 Ja x8_1).f1.f0.f4⟩:S32),(rd_T36 Ja x8_1).f1.f1⟩:S34),(⟨(⟨(rd_T36 Ja x8_1).f2.f0.f0,(rd_T36 Ja x8_1).f2.f0.f1,(rd_T36 Ja x8_1).f2.f0.f2,(rd_T36 Ja x8_1).f2.f0.f3,(rd_T36 Ja x8_1).f2.f0.f4⟩:S32),(rd_T36 Ja x8_1).f2.f1⟩:S34),(rd_T36 Ja x8_1).f3,(rd_T36 Ja x8_1).f4,(rd_T36 Ja x8_1).f5,(rd_T36 Ja x8_1).f6⟩:S36) )) rfl (Reps.none _ _) rfl));intro Ug w18 ho19 hb hg_ hnew_;clear hg_ hnew_;(first|rw [← Ny740.out] at ho19|(simp only [Int.reduceToNat] at ho19;rw [← Ny740.out] at ho19));have n_:=an_ (Kd.R_below (pR_ Ma.out) hb)<|an_ (Kd.R_elder' (pR_ Oa.out) (Kd.R_base ho19) hb)<|an_ (Kd.R_elder' (pR_ Ua.out) (Kd.R_base ho19) hb)<|an_ (Kd.R_lower (nw_ (nw_ ho19 (pR_ Oa.out)) (pR_ Ua.out)) (below_size (pB_ HB.out)))<|an_ (blk_below (pk_ Ka.out) hb)<|D (below_step (pB_ HB.out) hb);clear Ma Oa Ua Ka HB;obtain ⟨Ma,Oa,Ua,Je,Ka,HB⟩:=n_;clear hb ho19;obtain ⟨Uf,Xf,eo21⟩:=Kd.R_slice Ua.out;subst eo21)|((with_reducible refine gate_builtin (b:=.append) (xs:=#[.tmp 33,.tmp 34]) rfl ?_);at_builtin;refine Kd.R_append_rows k36 (w0:=w) w.heap.size rfl (.tmp 33) (.tmp 34) 25 36 (.agg #[(I L 0),(I L 0),(I L 0),(I L 0),(I L 0),(I L 0),(I L 0),(I L 0),(I L 0),(I L 0),(I L 0),(I L 0),(I L 0),(I L 0),(I L 0),(I L 0),(I L 0)]) 136 rfl Try.underlying25 info36 rfl (by decide) (by omega) Ug y740 x7_1 _ _ _ (fun k_=>some k_≠(Y (some ad739) Ja.length Kc:Value).ownBlock∧some k_≠(Y Uf x7_1.length Xf:Value).ownBlock) (fun _=>False) rfl rfl ?aO ?aR (fun _ _ h=>h) (fun _ h=>h.elim) ?aF ?aB ?aS ?aL ?_;(case aR=>exact pC_ ((Kd.R_reads' Ua.out).2.2));(case aB=>exact (pB_ HB.out));(case aF=>exact (fun k_ hk=>⟨Kd.fresh' (Kd.R_lt (pR_ Oa.out)) k_ hk,Kd.fresh' (Kd.R_lt (pR_ Ua.out)) k_ hk⟩));(case aO=>exact (pR_ (Kd.R_mono Je.out (fun _ hk=>⟨hk.1.2,hk.2⟩))));(case aS=>exact (below_size (pB_ HB.out)));(case aL=>have:=LMc17.out;omega);intro Jj w20 ho hb hg hat;rw [← Ny743.out] at ho;have n_:=an_ (Kd.R_over' (pR_ Ma.out) (Kd.R_typed (pR_ Je.out)) (by decide) hg)<|an_ (Kd.R_after (ok:=(fun k_=>some k_≠(Y Uf x7_1.length Xf:Value).ownBlock)) (pR_ Oa.out) hg hat)<|an_ (Kd.R_after (ok:=(fun k_=>some k_≠(Y (some ad739) Ja.length Kc:Value).ownBlock)) (pR_ Ua.out) hg hat)<|an_ (blk_grown (pk_ Ka.out) hg (Kd.R_ne Je.out Ka.out (by decide)))<|an_ (hb)<|D (ho);clear Ma Oa Ua Ka HB Je;obtain ⟨Ma,Oa,Ua,Ka,HB,Xg⟩:=n_;clear ho hb hg hat)|((with_reducible refine gbs_ 25 rfl ?_);refine bs25_ ?_))
       go_roundg k1
       case measure => have := HK1.out; omega
       case rel=>exact ⟨(y743),(wrap64 (x8_1 + 1)),Z22,H',⟨by have:=HK1.out;omega⟩,⟨pR_ Ma.out⟩,⟨pR_ (Kd.R_mono Oa.out (fun _ hk=>hk.2))⟩,⟨pR_ (Kd.R_mono Xg.out (fun _ hk=>hk.1))⟩,⟨pk_ Ka.out⟩,⟨pB_ HB.out⟩⟩
      ·rw [if_neg c17] at H
       exact absurd H (by simp)
     ·rw [if_neg c16] at H
      exact absurd H (by simp)
    ·rw [if_neg c15] at H
     have c15b0:decide (x8_1 < (Ja.length:Int))=false:=decide_eq_false c15;clear c15;refine rw_ c15b0 ?_;have HC22:=D H;clear H
     go_upto_region 10 with (first|((with_reducible refine gbs_ 25 rfl ?_);refine bs25_ ?_))
     go_cut [49] (fun v49 wc=>∃ (kq:Nat) (Ke:Bool),v49=.bool Ke∧Aside0 (laws_FnCostAdds.j1 kq Ob Ja Mb Ke Xa Jb Kb=some r)∧Aside0 (kq≤k1)∧Aside0 (Kd.R k43 43 wc w.heap.size (fun _=>True) (Y Mc Ob.length Oc) Ob)∧Aside0 (Kd.R k36 36 wc w.heap.size (fun _=>True) (Y Xc Ja.length Kc) Ja)∧Aside0 (wc.heap[Ub]?=some (.cells #[I L Xa,I L Jb,I L Kb] 29 (0,0)))∧Aside0 (Below w.heap.size w wc))
     case first =>
      have H := HC22.out; clear HC22; obtain ⟨⟨Md, Od, Ud⟩, A230, H⟩ := bs_.mp H; (try dsimp only at H); have A23 := D A230; clear A230
      by_cases c24 : (!(Md == Xa) || (!(Od == Jb) || (!(Ud == Kb)))) = true
      ·rw [if_pos c24] at H
       have c24b0:(!(Md == Xa) || (!(Od == Jb) || (!(Ud == Kb))))=true:=c24;clear c24;refine rw_ c24b0 ?_;have H':=D H;clear H
       try go_wp2_with (first|((with_reducible refine gbs_ 25 rfl ?_);refine bs25_ ?_))
       have n_ := an_ (Kd.R_drew Ma.out) <| an_ (Kd.R_drew Oa.out) <| an_ (Kd.R_drew Ua.out) <| an_ (blk_drew Ka.out) <| D (below_drew1 HB.out)
       clear Ma Oa Ua Ka HB;obtain ⟨Ma,Oa,Ua,Ka,HB⟩:=n_;obtain ⟨Jh,Kh,eo26⟩:=Kd.R_slice Ua.out;(first|subst eo26|obtain ⟨rfl,rfl⟩:=sl_inj eo26);refine start_ (n:=14) (S:=fun w'=>w'.cell? ⟨Ub,0,none⟩=some (I L Xa)∧w'.cell? ⟨Ub,1,none⟩=some (I L Jb)∧w'.cell? ⟨Ub,2,none⟩=some (I L Kb)) (ds:=[]) (bz 14 0) (by kernel_rfl) rfl (by kernel_rfl) (be3_ Ka.out) (fun hHeld=>?_);refine with_tabW laws_FnCostAdds.tab10 laws_FnCostAdds.bits10 (fun HT_ HW_=>?_);generalize wr.drew=w25 at Ma Oa Ua Ka HB hHeld ⊢;refine pb_ 0 ?_;refine pb_ 1 ?_;refine pb_ 2 ?_;refine tb_ 4 rfl rfl hHeld Z20 ?_;refine oa_ 3 39 14 31 HT_ (fun K hK=>?_);refine goes_ Try.func7 (by kernel_rfl) rfl #[Y Mc Ob.length Oc,Y Jh x7_1.length Kh,I L Mb] (by rfl) rfl rfl Z15 ?_;with_reducible refine (impl_ChainCost.calls k1 _ _ Ob _ _ x7_1 Mb Md Od Ud _ ?side1 ?side2 ?side3 ?side4 A23.out).mono ?_
       (case side1=>exact pC_ ((Kd.R_reads' Ma.out).2.2));(case side2=>exact (Kd.R_reads' Ma.out).2.1);(case side3=>exact pC_ ((Kd.R_reads' Ua.out).2.2));(case side4=>exact (Kd.R_reads' Ua.out).2.1);rintro e w27 ⟨rfl,hb⟩;refine ⟨_,rfl,?_⟩
       have n_ := an_ (Kd.R_below (pR_ Ma.out) hb) <| an_ (Kd.R_below (pR_ Oa.out) hb) <| an_ (Kd.R_below (pR_ Ua.out) hb) <| an_ (blk_below (pk_ Ka.out) hb) <| D (below_step (pB_ HB.out) hb)
       clear Ma Oa Ua Ka HB;obtain ⟨Ma,Oa,Ua,Ka,HB⟩:=n_;refine hK.out _ _ (be3_ Ka.out) (fun hHeld=>?_);clear hK K;refine nx_ (N:=some 39) ?_;refine pb_ 5 ?_;refine pb_ 6 ?_;refine ob_ 7 ?_;refine ob_ 8 ?_;refine ob_ 9 ?_;refine ob_ 10 ?_;refine ob_ 11 ?_;refine ob_ 12 ?_;refine pb_ 13 ?_;refine done_ (done_of HT_.out (by kernel_rfl)) ?_
       try go_wp2_with (first|((with_reducible refine gbs_ 25 rfl ?_);refine bs25_ ?_))
       go_meet
       case rel => exact ⟨_, (true), Z22, H', ⟨by have := HK1.out; first | omega | exact Nat.le_refl _⟩, ⟨pR_ Ma.out⟩, ⟨pR_ (Kd.R_mono Oa.out (fun _ hk => trivial))⟩, ⟨pk_ Ka.out⟩, ⟨pB_ HB.out⟩⟩
      ·rw [if_neg c24] at H
       have c24b0 : (!(Md == Xa) || (!(Od == Jb) || (!(Ud == Kb)))) = false := by simpa using c24
       clear c24;refine rw_ c24b0 ?_;obtain ⟨⟨Jg,Kg,Mg⟩,A280,H⟩:=bs_.mp H;(try dsimp only at H);have A28:=D A280;clear A280;have H':=D H;clear H
       try go_wp2_with (first|((with_reducible refine gbs_ 25 rfl ?_);refine bs25_ ?_))
       have n_ := an_ (Kd.R_drew Ma.out) <| an_ (Kd.R_drew Oa.out) <| an_ (Kd.R_drew Ua.out) <| an_ (blk_drew Ka.out) <| D (below_drew1 HB.out)
       clear Ma Oa Ua Ka HB;obtain ⟨Ma,Oa,Ua,Ka,HB⟩:=n_;obtain ⟨Mh,Oh,eo30⟩:=Kd.R_slice Ua.out;(first|subst eo30|obtain ⟨rfl,rfl⟩:=sl_inj eo30);refine start_ (n:=14) (S:=fun w'=>w'.cell? ⟨Ub,0,none⟩=some (I L Xa)∧w'.cell? ⟨Ub,1,none⟩=some (I L Jb)∧w'.cell? ⟨Ub,2,none⟩=some (I L Kb)) (ds:=[]) (bz 14 0) (by kernel_rfl) rfl (by kernel_rfl) (be3_ Ka.out) (fun hHeld=>?_);refine with_tabW laws_FnCostAdds.tab10 laws_FnCostAdds.bits10 (fun HT_ HW_=>?_);generalize wr.drew=w29 at Ma Oa Ua Ka HB hHeld ⊢;refine pb_ 0 ?_;refine pb_ 1 ?_;refine pb_ 2 ?_;refine tb_ 4 rfl rfl hHeld Z20 ?_;refine oa_ 3 39 14 31 HT_ (fun K hK=>?_);refine goes_ Try.func7 (by kernel_rfl) rfl #[Y Mc Ob.length Oc,Y Mh x7_1.length Oh,I L Mb] (by rfl) rfl rfl Z15 ?_;with_reducible refine (impl_ChainCost.calls k1 _ _ Ob _ _ x7_1 Mb Md Od Ud _ ?side1 ?side2 ?side3 ?side4 A23.out).mono ?_
       (case side1=>exact pC_ ((Kd.R_reads' Ma.out).2.2));(case side2=>exact (Kd.R_reads' Ma.out).2.1);(case side3=>exact pC_ ((Kd.R_reads' Ua.out).2.2));(case side4=>exact (Kd.R_reads' Ua.out).2.1);rintro e w31 ⟨rfl,hb⟩;refine ⟨_,rfl,?_⟩
       have n_ := an_ (Kd.R_below (pR_ Ma.out) hb) <| an_ (Kd.R_below (pR_ Oa.out) hb) <| an_ (Kd.R_below (pR_ Ua.out) hb) <| an_ (blk_below (pk_ Ka.out) hb) <| D (below_step (pB_ HB.out) hb)
       clear Ma Oa Ua Ka HB;obtain ⟨Ma,Oa,Ua,Ka,HB⟩:=n_;refine hK.out _ _ (be3_ Ka.out) (fun hHeld=>?_);clear hK K;refine nx_ (N:=some 39) ?_;refine pb_ 5 ?_;refine pb_ 6 ?_;refine pb_ 7 ?_;refine pb_ 8 ?_;refine pb_ 9 ?_;refine tb_ 11 rfl rfl hHeld Z20 ?_;refine oa_ 10 46 14 4095 HT_ (fun K hK=>?_);refine goes_ Try.func7 (by kernel_rfl) rfl #[Y Mc Ob.length Oc,Y Xc Ja.length Kc,I L Mb] (by rfl) rfl rfl Z15 ?_;with_reducible refine (impl_ChainCost.calls k1 _ _ Ob _ _ Ja Mb Jg Kg Mg _ ?side1 ?side2 ?side3 ?side4 A28.out).mono ?_
       (case side1=>exact pC_ ((Kd.R_reads' Ma.out).2.2));(case side2=>exact (Kd.R_reads' Ma.out).2.1);(case side3=>exact pC_ ((Kd.R_reads' Oa.out).2.2));(case side4=>exact (Kd.R_reads' Oa.out).2.1);rintro e w32 ⟨rfl,hb⟩;refine ⟨_,rfl,?_⟩
       have n_ := an_ (Kd.R_below (pR_ Ma.out) hb) <| an_ (Kd.R_below (pR_ Oa.out) hb) <| an_ (Kd.R_below (pR_ Ua.out) hb) <| an_ (blk_below (pk_ Ka.out) hb) <| D (below_step (pB_ HB.out) hb)
       clear Ma Oa Ua Ka HB;obtain ⟨Ma,Oa,Ua,Ka,HB⟩:=n_;refine hK.out _ _ (be3_ Ka.out) (fun hHeld=>?_);clear hK K;refine nx_ (N:=some 46) ?_;refine pb_ 12 ?_;refine pb_ 13 ?_;refine done_ (done_of HT_.out (by kernel_rfl)) ?_
       try go_wp2_with (first|((with_reducible refine gbs_ 25 rfl ?_);refine bs25_ ?_))
       go_meet
       case rel=>exact ⟨_,((!(Jg == Xa) || (!(Kg == Jb) || (!(Mg == Kb))))),Z22,H',⟨by have:=HK1.out;first|omega|exact Nat.le_refl _⟩,⟨pR_ Ma.out⟩,⟨pR_ (Kd.R_mono Oa.out (fun _ hk=>trivial))⟩,⟨pk_ Ka.out⟩,⟨pB_ HB.out⟩⟩
     case rest =>
      clear HC22
      (try clear c1);(try clear c2);(try clear p2);(try clear c3);(try clear c4);(try clear c5);(try clear c6);(try clear p6);(try clear c7);(try clear p7);(try clear q7);(try clear hx7);(try clear c15);(try clear c15b0);(try clear c16);(try clear c16b0);(try clear c17);(try clear c24);(try clear c24b0);(try clear Ue);(try clear hx739_0 hx739_1 hx739_10 hx739_11 hx739_12 hx739_13 hx739_14 hx739_15 hx739_16 hx739_2 hx739_3 hx739_4 hx739_5 hx739_6 hx739_7 hx739_8 hx739_9);(try clear p2);(try clear p739);(try clear q739)
      obtain ⟨kq, Ke, rfl, HA, HJ21, Ma, Oa, Ka, HB⟩ := hcut
      cases kq with
      | zero => exact absurd HA.out (by simp [laws_FnCostAdds.j1])
      | succ kj21 =>
       have H := HA.out; clear HA; simp only [laws_FnCostAdds.j1] at H
       by_cases c33 : Ke = true
       ·subst c33
        rw [if_pos rfl] at H; exact absurd (Option.some.inj H) (by rw [hr_.out]; decide)
       ·replace c33 := Bool.eq_false_iff.mpr c33
        subst c33; rw [if_neg (show ¬ (false = true) by decide)] at H
        by_cases c34 : (Xa == 0 && (Jb == 0 && (Kb == 0))) = true
        ·rw [if_pos c34] at H
         have c34b0:(Xa == 0 && (Jb == 0 && (Kb == 0)))=true:=c34;(try (have c34b1:decide (Xa=0 && (Jb == 0 && (Kb == 0)))=true:=by simpa using c34));(try (have c34b2:(Xa == 0 && (Jb == 0 && (Kb == 0)))=true:=by simpa using c34));clear c34;obtain rfl:=Option.some.inj H;have Kj:=cells3 Ka.out
         go_wp2_with (first|((with_reducible refine gbs_ 25 rfl ?_);refine bs25_ ?_))
         go_ret; exact ⟨er_, pB_ HB.out⟩
        ·rw [if_neg c34] at H
         have c34b0 : (Xa == 0 && (Jb == 0 && (Kb == 0))) = false := by simpa using c34
         (try (have c34b1:decide (Xa=0 && (Jb == 0 && (Kb == 0)))=false:=by simpa using c34));(try (have c34b2:(Xa == 0 && (Jb == 0 && (Kb == 0)))=false:=by simpa using c34));(try (have c34b3:¬ (Xa=0 && (Jb == 0 && (Kb == 0))):=by simpa using c34));clear c34
         by_cases c36 : Mb = 1600
         ·rw [if_pos c36] at H
          have c36b0:(Mb == 1600)=true:=beq_iff_eq.mpr c36;have c36b1:(Mb != 1600)=false:=bne_eq_false_iff_eq.mpr c36;clear c36;obtain rfl:=Option.some.inj H;have Kk:=cells3 Ka.out
          go_wp2_with (first|((with_reducible refine gbs_ 25 rfl ?_);refine bs25_ ?_))
          go_ret; exact ⟨er_, pB_ HB.out⟩
         ·rw [if_neg c36] at H
          have c36b0:(Mb == 1600)=false:=beq_eq_false_iff_ne.mpr c36;have c36b1:(Mb != 1600)=true:=bne_iff_ne.mpr c36;obtain ⟨⟨Me,Oe,Uh⟩,A380,H⟩:=bs_.mp H;(try dsimp only at H);have A38:=D A380;clear A380
          by_cases c39 : Me ≥ Xa
          ·rw [if_pos c39] at H
           have c39b0 : decide (Xa ≤ Me) = true := decide_eq_true c39; clear c39
           by_cases c40 : Oe ≥ Jb
           ·rw [if_pos c40] at H
            have c40b0 : decide (Jb ≤ Oe) = true := decide_eq_true c40; clear c40; obtain rfl := Option.some.inj H; obtain ⟨Km, Mm, Om, Um, Xm, Jn⟩ := cells3 Ka.out
            go_wp2_with (first|((with_reducible refine gate_callee (f:=7) rfl ?_);refine goesL_ (some 61) rfl rfl Try.func7 (by kernel_rfl) rfl #[Y Mc Ob.length Oc,Y Xc Ja.length Kc,I L (wrap64 (Mb + 1))] rfl Z15 ?_;(with_reducible refine (impl_ChainCost.calls kj21 _ _ Ob _ _ Ja (wrap64 (Mb + 1)) Me Oe Uh _ ?side1 ?side2 ?side3 ?side4 A38.out).mono ?_);(case side1=>exact pC_ ((Kd.R_reads' Ma.out).2.2));(case side2=>exact (Kd.R_reads' Ma.out).2.1);(case side3=>exact pC_ ((Kd.R_reads' Oa.out).2.2));(case side4=>exact (Kd.R_reads' Oa.out).2.1);rintro e w42 ⟨rfl,hb⟩;refine ⟨_,rfl,?_⟩;have n_:=an_ (Kd.R_below (pR_ Ma.out) hb)<|an_ (Kd.R_below (pR_ Oa.out) hb)<|an_ (blk_below (pk_ Ka.out) hb)<|D (below_step (pB_ HB.out) hb);clear Ma Oa Ka HB;obtain ⟨Ma,Oa,Ka,HB⟩:=n_;(try clear hb))|((with_reducible refine gate_dst (N:=9) rfl ?_);refine bx_ (N:=9) (cs:=#[I L 0,I L 0,I L 0]) (t:=29) ?_;intro Uc hg w43 hbox hb;have n_:=an_ (blk_below (pk_ Ka.out) hb)<|an_ (below_step (pB_ HB.out) hb)<|an_ (hbox)<|an_ (bg_ hg (pB_ HB.out):w.heap.size≤Uc)<|an_ (bg_ hg (pB_ HB.out):w.heap.size≤Uc)<|an_ (nl_ hg (pk_ Ka.out):Ub≠Uc)<|D (by rw [hg];exact Nat.ne_of_gt (blk_lt (pk_ Ka.out)):Uc≠Ub);clear Ka HB;obtain ⟨Ka,HB,Jd,Kn,Mn,Xh,Ji⟩:=n_;clear hb hbox hg;(try have:=Ji.out);(try have:=Xh.out);have On:=cells3 Jd.out;have Oo:=cells3 Ka.out)|((with_reducible refine gbs_ 25 rfl ?_);refine bs25_ ?_))
            go_ret; exact ⟨er_, pB_ HB.out⟩
           ·rw [if_neg c40] at H
            have c40b0 : decide (Jb ≤ Oe) = false := decide_eq_false c40; clear c40; exact absurd (Option.some.inj H) (by rw [hr_.out]; decide)
          ·rw [if_neg c39] at H
           have c39b0 : decide (Xa ≤ Me) = false := decide_eq_false c39; clear c39; exact absurd (Option.some.inj H) (by rw [hr_.out]; decide)

/-- THE ONE PURE STATEMENT of laws_FnCostAdds: yours. -/
def laws_FnCostAdds.Pure : Prop := ∀ (l0 : List Int), l0.length ≤ maxLen → l0.length * 1 ≤ 140737488351232 → (∀ x ∈ l0, (Lit.int .u8 x).wf = true) → ∃ k, laws_FnCostAdds.f k l0 = some true
theorem laws_FnCostAdds.walk (P : laws_FnCostAdds.Pure) (a0 : Option Addr) (len0 cap0 : Nat) (z0 : List Int) (w : World) (w0 : (a0 = none ∧ len0 = 0 ∧ cap0 = 0 ∧ z0 = []) ∨ ∃ x, a0 = some x ∧ len0 ≤ cap0 ∧ cap0 ≤ maxLen ∧ z0.length = cap0 ∧ (∀ i, i < z0.length → w.cell? (x.add i) = some (.int .u8 (z0.getD i 0))) ∧ ∀ n ∈ z0, (Lit.int .u8 n).wf = true) (y0 : len0 * 1 ≤ 140737488351232) :
  Calls Try.prog 3 #[Y a0 len0 cap0] w fun e w' => e = .returned (.bool true) ∧ Below w.heap.size w w' := by
 obtain ⟨l0, rfl, hr0, hm0, hw0, hc0⟩ := ReadsInt.ofRowC w0
 obtain ⟨k, h⟩ := P l0 hm0 y0 hw0
 refine (laws_FnCostAdds.calls k _ _ l0 true w (Kd.C_of_reads (d := (0 : Int)) (h1 := fun _ => rfl) hr0) hc0 ⟨rfl⟩ h).mono ?_
 rintro e w' ⟨rfl, hd⟩
 exact ⟨rfl, hd⟩

end Go.Proofs.Ytoacddcbiceeeab.PFnCostAdds
