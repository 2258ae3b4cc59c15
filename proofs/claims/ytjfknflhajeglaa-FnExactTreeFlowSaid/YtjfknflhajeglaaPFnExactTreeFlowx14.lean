-- by a program of this session's, over the kit's words
import Derived.Test.YtjfknflhajeglaaPZFnExactTreeFlow
import Derived.Test.YtjfknflhajeglaaPFnExactTreeFlowx0
import Derived.Test.YtjfknflhajeglaaPFnExactTreeFlowx9
import Derived.Test.YtjfknflhajeglaaPFnExactTreeFlowx10
import Derived.Test.YtjfknflhajeglaaPFnExactTreeFlowx12
import Derived.Test.YtjfknflhajeglaaPFnExactTreeFlowx13
namespace Go.Proofs.Ytjfknflhajeglaa.PFnExactTreeFlow
open Go.RowKit Go.Proofs.YtjfknflhajeglaaW.PrintWords Go.Proofs.YtjfknflhajeglaaW.PrintLast Go.Proofs.YtjfknflhajeglaaW.PrintMore Go.Proofs.YtjfknflhajeglaaV Go.Proofs.Ytjfknflhajeglaa.ZFnExactTreeFlow
open Go.Value renaming int → I, slice → Y
open Go.IntKind renaming i64 → L
open Aside0 renaming mk → D
open Option renaming bind_eq_some_iff → bs_
attribute [local go_sem] max2_int min2_int max_two min_two max_three min_three max_four min_four   -- for this text's walks alone
set_option linter.unusedVariables false
set_option linter.unusedSimpArgs false

/-! ### impl_FairJoin: function 21 -/
mutual
def impl_FairJoin.j0 : Nat → Int → Int → Bool → Int → Int → Int → Int → List (S67) → Option (Int × Int × Int × Int × (List (S67)) × Int)
 | 0, _, _, _, _, _, _, _, _ => none
 | k + 1,x1,x2,x10,x442000,x442001,x442002,x442003,x442004=>if x10=true then (some (0,0,0,0,([]:List (S67)),1)) else ((impl_Fair_at.f k x442000 x442001 x442002 x442003 x442004 x1).bind fun t446=>(if t446 ≥ 0 then (some (0,0,0,0,([]:List (S67)),2)) else (if (x442004.length:Int)=48 then (some (0,0,0,0,([]:List (S67)),3)) else (impl_FairJoin.l0 k x1 x2 0 x442000 x442001 x442002 x442003 x442004))))
def impl_FairJoin.l0 : Nat → Int → Int → Int → Int → Int → Int → Int → List (S67) → Option (Int × Int × Int × Int × (List (S67)) × Int)
 | 0, _, _, _, _, _, _, _, _ => none
 | k + 1,x1,x2,x8,x442000,x442001,x442002,x442003,x442004=>if x8 < (x442004.length:Int) then (if 0≤x8 then (if ((rd_T67 x442004 x8).f0) < x1 then (impl_FairJoin.l0 k x1 x2 (wrap64 (x8 + 1)) x442000 x442001 x442002 x442003 x442004) else ((impl_copyFair.f x442000 x442001 x442002 x442003 x442004).bind fun bt448=>(if x8≤(bt448.2.2.2.2.length:Int) then (if bt448.2.2.2.2.length < 2932031007402 then (some (bt448.1,bt448.2.1,bt448.2.2.1,bt448.2.2.2.1,(bt448.2.2.2.2.take (x8:Int).toNat ++ ([(⟨x1,x2,false,(⟨0,0,0⟩:S31)⟩:S67)] ++ bt448.2.2.2.2.drop (x8:Int).toNat)),0)) else (none)) else (none)))) else (none)) else ((impl_copyFair.f x442000 x442001 x442002 x442003 x442004).bind fun bt459=>(if 0≤x8 then (if x8≤(bt459.2.2.2.2.length:Int) then (if bt459.2.2.2.2.length < 2932031007402 then (some (bt459.1,bt459.2.1,bt459.2.2.1,bt459.2.2.2.1,(bt459.2.2.2.2.take (x8:Int).toNat ++ ([(⟨x1,x2,false,(⟨0,0,0⟩:S31)⟩:S67)] ++ bt459.2.2.2.2.drop (x8:Int).toNat)),0)) else (none)) else (none)) else (none)))
end
def impl_FairJoin.f (k : Nat) (a0_0 a0_1 a0_2 a0_3 : Int) (l0_4 : List (S67)) (a1 a2 : Int) : Option (Int × Int × Int × Int × (List (S67)) × Int) := (impl_FairOk.f k a0_0 a0_1 a0_2 a0_3 l0_4).bind fun t443 => (if t443 = true then ((impl_isFlow.f a1).bind fun t444 => (if t444 = true then ((impl_isWeight.f a2).bind fun t445 => (impl_FairJoin.j0 k a1 a2 (!t445) a0_0 a0_1 a0_2 a0_3 l0_4)) else (impl_FairJoin.j0 k a1 a2 true a0_0 a0_1 a0_2 a0_3 l0_4))) else (impl_FairJoin.j0 k a1 a2 true a0_0 a0_1 a0_2 a0_3 l0_4))
set_option maxHeartbeats 8000000 in
set_option maxRecDepth 100000 in
theorem impl_FairJoin.calls (k : Nat) (a0_0 a0_1 a0_2 a0_3 : Int) (A0_4 : Option Addr) (c0_4 : Nat) (l0_4 : List (S67)) (a1 a2 r1 r2 r3 r4 : Int) (r5 : List (S67)) (r6 : Int) (w : World) (hr0_4 : Kd.C k67 w A0_4 l0_4.length l0_4) (hc0_4 : l0_4.length ≤ c0_4) (h : impl_FairJoin.f k a0_0 a0_1 a0_2 a0_3 l0_4 a1 a2 = some (r1, r2, r3, r4, r5, r6)) :
  Calls Try.prog 21 #[.agg #[I L a0_0,I L a0_1,I L a0_2,I L a0_3,Y A0_4 l0_4.length c0_4],I L a1,I L a2] w fun e w'=>∃ v4_:Value,e=.returned (.tuple #[.agg #[I L r1,I L r2,I L r3,I L r4,v4_],I L r6])∧Kd.R k67 67 w' w.heap.size (fun _=>True) v4_ r5∧Below w.heap.size w w':=by
 have hu34 := Try.underlying34
 have hu67 := Try.underlying67
 have HR0_4 := D hr0_4
 have HC0_4 := D hc0_4
 clear hr0_4 hc0_4
 have HB := D (Below.refl w.heap.size w)
 have H:((impl_FairOk.f k a0_0 a0_1 a0_2 a0_3 l0_4).bind fun Uf=>(if Uf=true then ((impl_isFlow.f a1).bind fun Xf=>(if Xf=true then ((impl_isWeight.f a2).bind fun Oe=>(impl_FairJoin.j0 k a1 a2 (!Oe) a0_0 a0_1 a0_2 a0_3 l0_4)) else (impl_FairJoin.j0 k a1 a2 true a0_0 a0_1 a0_2 a0_3 l0_4))) else (impl_FairJoin.j0 k a1 a2 true a0_0 a0_1 a0_2 a0_3 l0_4)))=some (r1,r2,r3,r4,r5,r6):=h
 clear h
 have HC4 := D H
 clear H
 go_enter Try.func21, Try.ntmps21
 go_upto_region 1 with (first|((with_reducible refine gate_dst (N:=3) rfl ?_);refine bx_ (N:=3) (cs:=#[I L a0_0,I L a0_1,I L a0_2,I L a0_3,Y A0_4 l0_4.length c0_4]) (t:=34) ?_;intro Xb hg w5 hbox hb;have n_:=an_ (below_step (pB_ HB.out) hb)<|an_ (hbox)<|an_ (bg_ hg (pB_ HB.out):w.heap.size≤Xb)<|D (bg_ hg (pB_ HB.out):w.heap.size≤Xb);clear HB;obtain ⟨HB,Ka,Uz,Xz⟩:=n_;clear hb hbox hg)|((with_reducible refine gate_dst (N:=6) rfl ?_);refine bx_ (N:=6) (cs:=#[I L 0,I L 0,I L 0,I L 0,Y none 0 0]) (t:=34) ?_;intro Ma hg w6 hbox hb;have n_:=an_ (blk_below (pk_ Ka.out) hb)<|an_ (below_step (pB_ HB.out) hb)<|an_ (hbox)<|an_ (bg_ hg (pB_ HB.out):w.heap.size≤Ma)<|an_ (bg_ hg (pB_ HB.out):w.heap.size≤Ma)<|an_ (nl_ hg (pk_ Ka.out):Xb≠Ma)<|D (by rw [hg];exact Nat.ne_of_gt (blk_lt (pk_ Ka.out)):Ma≠Xb);clear Ka HB;obtain ⟨Ka,HB,Ja,Ja1,Ka1,Mc,Oc⟩:=n_;clear hb hbox hg))
 (try simp only [Act.put, List.setIfInBounds_toArray, List.set_cons_zero, List.set_cons_succ])
 go_cut [10] (fun v10 wc=>∃ (kq:Nat) (Ue:Bool),v10=.bool Ue∧Aside0 (impl_FairJoin.j0 kq a1 a2 Ue a0_0 a0_1 a0_2 a0_3 l0_4=some (r1,r2,r3,r4,r5,r6))∧Aside0 (kq≤k)∧Aside0 (wc.heap[Xb]?=some (.cells #[I L a0_0,I L a0_1,I L a0_2,I L a0_3,(Y A0_4 l0_4.length c0_4)] 34 (0,0)))∧Aside0 (wc.heap[Ma]?=some (.cells #[I L 0,I L 0,I L 0,I L 0,(Y none 0 0)] 34 (0,0)))∧Aside0 (Below w.heap.size w wc))
 case first =>
  have H := HC4.out; clear HC4; obtain ⟨Uf, A70, H⟩ := bs_.mp H; (try dsimp only at H); have A7 := D A70; clear A70
  by_cases c8 : Uf = true
  ·subst c8
   rw [if_pos rfl] at H; obtain ⟨Xf, A90, H⟩ := bs_.mp H; (try dsimp only at H); have A9 := D A90; clear A90
   by_cases c10 : Xf = true
   ·subst c10
    rw [if_pos rfl] at H;obtain ⟨Oe,A110,H⟩:=bs_.mp H;(try dsimp only at H);have A11:=D A110;clear A110;have H':=D H;clear H;(try have:=Mc.out);(try have:=Oc.out);have Ug:=cells5 Ka.out
    go_wp2_with (first|((with_reducible refine gate_callee (f:=41) rfl ?_);refine goesL_ (some 12) rfl rfl Try.func41 (by kernel_rfl) rfl #[.agg #[I L a0_0,I L a0_1,I L a0_2,I L a0_3,Y A0_4 l0_4.length c0_4]] rfl Z17 ?_;(with_reducible refine (impl_FairOk.calls k a0_0 a0_1 a0_2 a0_3 _ _ l0_4 true _ ?side1 ?side2 A7.out).mono ?_);(case side1=>exact pC_ (Kd.C_below HR0_4.out HB.out));(case side2=>exact HC0_4.out);rintro e w14 ⟨rfl,hb⟩;refine ⟨_,rfl,?_⟩;have n_:=an_ (blk_below (pk_ Ka.out) hb)<|an_ (blk_below (pk_ Ja.out) hb)<|D (below_step (pB_ HB.out) hb);clear Ka Ja HB;obtain ⟨Ka,Ja,HB⟩:=n_;(try clear hb))|(go_at_call 42;(with_reducible refine (impl_isFlow.calls a1 true _ A9.out).mono ?_);rintro e w' ⟨rfl,⟨nd,rfl⟩⟩)|(go_at_call 43;(with_reducible refine (impl_isWeight.calls a2 Oe _ A11.out).mono ?_);rintro e w' ⟨rfl,⟨nd,rfl⟩⟩))
    go_meet
    case rel => exact ⟨_, (!Oe), Z49, H', ⟨by first | omega | exact Nat.le_refl _⟩, ⟨pk_ Ka.out⟩, ⟨pk_ Ja.out⟩, ⟨pB_ HB.out⟩⟩
   ·replace c10 := Bool.eq_false_iff.mpr c10
    subst c10;rw [if_neg (show ¬ (false=true) by decide)] at H;have H':=D H;clear H;(try have:=Mc.out);(try have:=Oc.out);have Mi:=cells5 Ka.out
    go_wp2_with (first|((with_reducible refine gate_callee (f:=41) rfl ?_);refine goesL_ (some 12) rfl rfl Try.func41 (by kernel_rfl) rfl #[.agg #[I L a0_0,I L a0_1,I L a0_2,I L a0_3,Y A0_4 l0_4.length c0_4]] rfl Z17 ?_;(with_reducible refine (impl_FairOk.calls k a0_0 a0_1 a0_2 a0_3 _ _ l0_4 true _ ?side1 ?side2 A7.out).mono ?_);(case side1=>exact pC_ (Kd.C_below HR0_4.out HB.out));(case side2=>exact HC0_4.out);rintro e w17 ⟨rfl,hb⟩;refine ⟨_,rfl,?_⟩;have n_:=an_ (blk_below (pk_ Ka.out) hb)<|an_ (blk_below (pk_ Ja.out) hb)<|D (below_step (pB_ HB.out) hb);clear Ka Ja HB;obtain ⟨Ka,Ja,HB⟩:=n_;(try clear hb))|(go_at_call 42;(with_reducible refine (impl_isFlow.calls a1 false _ A9.out).mono ?_);rintro e w' ⟨rfl,⟨nd,rfl⟩⟩))
    go_meet
    case rel => exact ⟨_, (true), Z49, H', ⟨by first | omega | exact Nat.le_refl _⟩, ⟨pk_ Ka.out⟩, ⟨pk_ Ja.out⟩, ⟨pB_ HB.out⟩⟩
  ·replace c8 := Bool.eq_false_iff.mpr c8
   subst c8;rw [if_neg (show ¬ (false=true) by decide)] at H;have H':=D H;clear H;(try have:=Mc.out);(try have:=Oc.out);have Jk:=cells5 Ka.out
   go_wp2_with (first|((with_reducible refine gate_callee (f:=41) rfl ?_);refine goesL_ (some 12) rfl rfl Try.func41 (by kernel_rfl) rfl #[.agg #[I L a0_0,I L a0_1,I L a0_2,I L a0_3,Y A0_4 l0_4.length c0_4]] rfl Z17 ?_;(with_reducible refine (impl_FairOk.calls k a0_0 a0_1 a0_2 a0_3 _ _ l0_4 false _ ?side1 ?side2 A7.out).mono ?_);(case side1=>exact pC_ (Kd.C_below HR0_4.out HB.out));(case side2=>exact HC0_4.out);rintro e w20 ⟨rfl,hb⟩;refine ⟨_,rfl,?_⟩;have n_:=an_ (blk_below (pk_ Ka.out) hb)<|an_ (blk_below (pk_ Ja.out) hb)<|D (below_step (pB_ HB.out) hb);clear Ka Ja HB;obtain ⟨Ka,Ja,HB⟩:=n_;(try clear hb)))
   go_meet
   case rel => exact ⟨_, (true), Z49, H', ⟨by first | omega | exact Nat.le_refl _⟩, ⟨pk_ Ka.out⟩, ⟨pk_ Ja.out⟩, ⟨pB_ HB.out⟩⟩
 case rest =>
  clear HC4
  (try clear c1);(try clear c2);(try clear p2);(try clear c4);(try clear c8);(try clear c10);(try clear c12);(try clear c15);(try clear c18);(try clear Ug);(try clear Mi);(try clear Jk)
  obtain ⟨kq, Ue, rfl, HA, HJ3, Ka, Ja, HB⟩ := hcut
  cases kq with
  | zero => exact absurd HA.out (by simp [impl_FairJoin.j0])
  | succ kj3 =>
   have H := HA.out; clear HA; simp only [impl_FairJoin.j0] at H
   by_cases c21 : Ue = true
   ·subst c21
    rw [if_pos rfl] at H;simp only [Option.some.injEq,Prod.mk.injEq] at H;obtain ⟨rfl,rfl,rfl,rfl,rfl,rfl⟩:=H;(try have:=Oc.out);(try have:=Mc.out);have Jn:=cells5 Ja.out
    go_wp2
    refine bodyPost_ret (results_ct rfl _ _ Ma 34 #[I L 0,I L 0,I L 0,I L 0,Y none 0 0] (0,0) _ rfl Z7 Try.underlying34 rfl (by kernel_rfl)) rfl ?_;exact ⟨_,er_,by first|exact Kd.R_nil _ _ _ _ _|exact Kd.N_nil _ _ _ _ _|exact Kd.V_nil _ _ _ _ _|exact Kd.Q_nil _ _ _ _ _|exact Kd.S_nil _ _ _ _ _,pB_ HB.out⟩
   ·replace c21 := Bool.eq_false_iff.mpr c21
    subst c21;rw [if_neg (show ¬ (false=true) by decide)] at H;obtain ⟨Xe,A240,H⟩:=bs_.mp H;(try dsimp only at H);have A24:=D A240;clear A240;have HU25:=D H;clear H;(try have:=Mc.out);(try have:=Oc.out);have Uo:=cells5 Ka.out
    go_upto_if 25 with (first|((with_reducible refine gate_callee (f:=39) rfl ?_);refine goesL_ (some 28) rfl rfl Try.func39 (by kernel_rfl) rfl #[.agg #[I L a0_0,I L a0_1,I L a0_2,I L a0_3,Y A0_4 l0_4.length c0_4],I L a1] rfl Z17 ?_;(with_reducible refine (impl_Fair_at.calls kj3 a0_0 a0_1 a0_2 a0_3 _ _ l0_4 a1 Xe _ ?side1 ?side2 A24.out).mono ?_);(case side1=>exact pC_ (Kd.C_below HR0_4.out HB.out));(case side2=>exact HC0_4.out);rintro e w28 ⟨rfl,hb⟩;refine ⟨_,rfl,?_⟩;have n_:=an_ (blk_below (pk_ Ka.out) hb)<|an_ (blk_below (pk_ Ja.out) hb)<|D (below_step (pB_ HB.out) hb);clear Ka Ja HB;obtain ⟨Ka,Ja,HB⟩:=n_;(try clear hb)))
    have H := HU25.out; clear HU25
    by_cases c29 : Xe ≥ 0
    ·rw [if_pos c29] at H
     have c29b0:decide (0≤Xe)=true:=decide_eq_true c29;clear c29;refine rw_ c29b0 ?_;simp only [Option.some.injEq,Prod.mk.injEq] at H;obtain ⟨rfl,rfl,rfl,rfl,rfl,rfl⟩:=H;(try have:=Oc.out);(try have:=Mc.out);have Mq:=cells5 Ja.out
     go_wp2
     refine bodyPost_ret (results_ct rfl _ _ Ma 34 #[I L 0,I L 0,I L 0,I L 0,Y none 0 0] (0,0) _ rfl Z7 Try.underlying34 rfl (by kernel_rfl)) rfl ?_;exact ⟨_,er_,by first|exact Kd.R_nil _ _ _ _ _|exact Kd.N_nil _ _ _ _ _|exact Kd.V_nil _ _ _ _ _|exact Kd.Q_nil _ _ _ _ _|exact Kd.S_nil _ _ _ _ _,pB_ HB.out⟩
    ·rw [if_neg c29] at H
     have c29b0:decide (0≤Xe)=false:=decide_eq_false c29;clear c29;refine rw_ c29b0 ?_
     by_cases c32 : (l0_4.length : Int) = 48
     ·rw [if_pos c32] at H
      have c32b0:((l0_4.length:Int) == 48)=true:=beq_iff_eq.mpr c32;have c32b1:((l0_4.length:Int) != 48)=false:=bne_eq_false_iff_eq.mpr c32;clear c32;simp only [Option.some.injEq,Prod.mk.injEq] at H;obtain ⟨rfl,rfl,rfl,rfl,rfl,rfl⟩:=H;(try have:=Mc.out);(try have:=Oc.out);have Js:=cells5 Ka.out;have Uu:=cells5 Ja.out
      go_wp2
      refine bodyPost_ret (results_ct rfl _ _ Ma 34 #[I L 0,I L 0,I L 0,I L 0,Y none 0 0] (0,0) _ rfl Z7 Try.underlying34 rfl (by kernel_rfl)) rfl ?_;exact ⟨_,er_,by first|exact Kd.R_nil _ _ _ _ _|exact Kd.N_nil _ _ _ _ _|exact Kd.V_nil _ _ _ _ _|exact Kd.Q_nil _ _ _ _ _|exact Kd.S_nil _ _ _ _ _,pB_ HB.out⟩
     ·rw [if_neg c32] at H
      have c32b0:((l0_4.length:Int) == 48)=false:=beq_eq_false_iff_ne.mpr c32;have c32b1:((l0_4.length:Int) != 48)=true:=bne_iff_ne.mpr c32;have H':=D H;clear H;(try have:=Mc.out);(try have:=Oc.out);have Mx:=cells5 Ka.out
      go_wp2
      go_loopg [8] kj3 (fun kq v8 w'=>∃ (x8_2:Int),v8=I L x8_2∧Aside0 (impl_FairJoin.l0 kq a1 a2 x8_2 a0_0 a0_1 a0_2 a0_3 l0_4=some (r1,r2,r3,r4,r5,r6))∧Aside0 (kq≤kj3)∧Aside0 (w'.heap[Xb]?=some (.cells #[I L a0_0,I L a0_1,I L a0_2,I L a0_3,(Y A0_4 l0_4.length c0_4)] 34 (0,0)))∧Aside0 (w'.heap[Ma]?=some (.cells #[I L 0,I L 0,I L 0,I L 0,(Y none 0 0)] 34 (0,0)))∧Aside0 (Below w.heap.size w w'))
      case atStart => exact ⟨(0), Z49, H', ⟨Nat.le_refl _⟩, ⟨pk_ Ka.out⟩, ⟨pk_ Ja.out⟩, ⟨pB_ HB.out⟩⟩
      case round =>
       clear H'
       (try clear c1);(try clear c2);(try clear p2);(try clear c3);(try clear c4);(try clear c8);(try clear c10);(try clear c12);(try clear c15);(try clear c18);(try clear c21);(try clear c22);(try clear c26);(try clear c29);(try clear c29b0);(try clear c30);(try clear c32);(try clear c32b0);(try clear c32b1);(try clear c33);(try clear c36);(try clear Ug);(try clear Mi);(try clear Jk);(try clear Jn);(try clear Uo);(try clear Mq);(try clear Js);(try clear Uu);(try clear Mx);(try clear p2)
       obtain ⟨x8_2, rfl, HA, HK2, Ka, Ja, HB⟩ := hrel
       cases gk with
       | zero => exact absurd HA.out (by simp [impl_FairJoin.l0])
       | succ k2 =>
        have H := HA.out; clear HA; simp only [impl_FairJoin.l0] at H
        by_cases c38 : x8_2 < (l0_4.length : Int)
        ·rw [if_pos c38] at H
         have c38b0 : decide (x8_2 < (l0_4.length : Int)) = true := decide_eq_true c38; clear c38
         by_cases c39 : 0 ≤ x8_2
         ·rw [if_pos c39] at H
          have c39b0:decide (0≤x8_2)=true:=decide_eq_true c39;clear c39;have HU40:=D H;clear H;(try have:=Mc.out);(try have:=Oc.out);have Ma1:=cells5 Ka.out;have p447:0≤(x8_2:Int):=od_ Z48;have q447:x8_2 < (l0_4.length:Int):=od_ Z48;obtain ⟨ad447,e447,hx447_0,hx447_1,hx447_2,hx447_3,hx447_4,hx447_5⟩:=at_T67 HR0_4.out x8_2 p447 q447;cases e447;replace hx447_0:=rc_ HB.out hx447_0;replace hx447_1:=rc_ HB.out hx447_1;replace hx447_2:=rc_ HB.out hx447_2;replace hx447_3:=rc_ HB.out hx447_3;replace hx447_4:=rc_ HB.out hx447_4;replace hx447_5:=rc_ HB.out hx447_5;replace p447:=eq_true p447;replace q447:=eq_true q447
          go_upto_if 51 with (fail)
          have H := HU40.out; clear HU40
          by_cases c43 : ((rd_T67 l0_4 x8_2).f0) < a1
          ·rw [if_pos c43] at H
           have c43b0:decide (((rd_T67 l0_4 x8_2).f0) < a1)=true:=decide_eq_true c43;clear c43;refine rw_ c43b0 ?_;have H':=D H;clear H
           go_wp2
           go_roundg k2
           case measure => have := HJ3.out; have := HK2.out; omega
           case rel => exact ⟨(wrap64 (x8_2 + 1)), Z49, H', ⟨by have := HJ3.out; have := HK2.out; omega⟩, ⟨pk_ Ka.out⟩, ⟨pk_ Ja.out⟩, ⟨pB_ HB.out⟩⟩
          ·rw [if_neg c43] at H
           have c43b0:decide (((rd_T67 l0_4 x8_2).f0) < a1)=false:=decide_eq_false c43;clear c43;refine rw_ c43b0 ?_;obtain ⟨⟨Kb,Ob,Uc,Jd,Jc⟩,A440,H⟩:=bs_.mp H;(try dsimp only at H);have A44:=D A440;clear A440
           by_cases c45 : x8_2 ≤ (Jc.length : Int)
           ·rw [if_pos c45] at H
            have c45b0 := eq_true c45; have c45b1 : decide (x8_2 ≤ (Jc.length : Int)) = true := decide_eq_true c45; clear c45
            by_cases c46 : Jc.length < 2932031007402
            ·rw [if_pos c46] at H
             have LMc46:=D c46;clear c46;obtain ⟨y456,hy456⟩:∃ y_:List (S67),y_=(Jc.take (x8_2:Int).toNat ++ ([(⟨a1,a2,false,(⟨0,0,0⟩:S31)⟩:S67)] ++ Jc.drop (x8_2:Int).toNat)):=⟨_,rfl⟩
             replace H:(some (Kb,Ob,Uc,Jd,y456,0))=some (r1,r2,r3,r4,r5,r6):=by first|(rw [hy456];with_reducible exact H)|(have H2_:=(Option.bind_some _ _).symm.trans H;rw [hy456];with_reducible exact H2_)|(have H2_:=(Option.bind_some _ _).symm.trans H;with_reducible exact H2_)|with_reducible exact H|(rw [hy456];exact H)|exact H
             have Ny456:=D hy456;clear hy456;simp only [Option.some.injEq,Prod.mk.injEq] at H;obtain ⟨rfl,rfl,rfl,rfl,rfl,rfl⟩:=H;(try have:=Mc.out);(try have:=Oc.out);have Jc1:=cells5 Ka.out
             go_wp2_with (first|((with_reducible refine gate_callee (f:=44) rfl ?_);refine goesL_ (some 55) rfl rfl Try.func44 (by kernel_rfl) rfl #[.agg #[I L a0_0,I L a0_1,I L a0_2,I L a0_3,Y (some ad447) l0_4.length c0_4]] rfl Z17 ?_;(with_reducible refine (impl_copyFair.calls a0_0 a0_1 a0_2 a0_3 _ _ l0_4 Kb Ob Uc Jd Jc _ ?side1 ?side2 A44.out).mono ?_);(case side1=>exact pC_ (Kd.C_below HR0_4.out HB.out));(case side2=>exact HC0_4.out);rintro e w49 ⟨Ud1,rfl,ho0,hb⟩;refine ⟨_,rfl,?_⟩;have n_:=an_ (Kd.R_lower ho0 (below_size (pB_ HB.out)))<|an_ (blk_below (pk_ Ka.out) hb)<|an_ (blk_below (pk_ Ja.out) hb)<|D (below_step (pB_ HB.out) hb);clear Ka Ja HB;obtain ⟨Md,Ka,Ja,HB⟩:=n_;(try clear hb);(try clear ho0))|((with_reducible refine gate_dst (N:=9) rfl ?_);refine bx_ (N:=9) (cs:=#[I L 0,I L 0,I L 0,I L 0,Y none 0 0]) (t:=34) ?_;intro Xa hg w50 hbox hb;have n_:=an_ (Kd.R_below (pR_ Md.out) hb)<|an_ (blk_below (pk_ Ka.out) hb)<|an_ (blk_below (pk_ Ja.out) hb)<|an_ (below_step (pB_ HB.out) hb)<|an_ (hbox)<|an_ (bg_ hg (pB_ HB.out):w.heap.size≤Xa)<|an_ (bg_ hg (pB_ HB.out):w.heap.size≤Xa)<|an_ (nl_ hg (pk_ Ka.out):Xb≠Xa)<|an_ (ng_ hg (pk_ Ka.out):Xa≠Xb)<|an_ (nl_ hg (pk_ Ja.out):Ma≠Xa)<|D (by rw [hg];exact Nat.ne_of_gt (blk_lt (pk_ Ja.out)):Xa≠Ma);clear Md Ka Ja HB;obtain ⟨Md,Ka,Ja,HB,Oa,Xd1,Je1,Ke,Jz,Xd,Kz⟩:=n_;clear hb hbox hg;(try have:=Jz.out);(try have:=Ke.out);(try have:=Kz.out);(try have:=Xd.out);have Ke1:=cells5 Oa.out;obtain ⟨Jf,Kf,eo54⟩:=Kd.R_slice Md.out;subst eo54)|((with_reducible refine gate_callee (f:=45) rfl ?_);have hj_:0≤(x8_2:Int):=od_ Z48;have hl_:(x8_2:Int)≤(Jc.length:Int):=od_ Z48;refine goesL_ (some 63) rfl rfl Try.func45 (by kernel_rfl) rfl #[Y Jf Jc.length Kf,I L x8_2,Y (some ⟨_,0,none⟩) 1 1] rfl Z28 ?_;refine (ins45_ (w0:=w) (base:=w.heap.size) (ok:=(fun _=>True)) (okp:=fun _=>False) (xs:=Jc) (p:=(⟨a1,a2,false,(⟨0,0,0⟩:S31)⟩:S67)) (cs:=[I L a1,I L a2,.bool false,I L 0,I L 0,I L 0]) ?aV ?aP (fun _ hk=>hk.elim) ?aF ?aO ?aB ?aS ?aL hj_ hl_).mono ?_;(case aV=>first|rfl|(simp;done)|(go_simp;done));(case aP=>exact k67_mkM _ _ _ (⟨a1,a2,false,(⟨0,0,0⟩:S31)⟩:S67));(case aB=>exact (pB_ HB.out));(case aF=>exact (fun _ _=>trivial));(case aO=>exact (rM_ (Kd.R_types Md.out Oa.out (by decide)) (fun _ hk=>trivial)));(case aS=>exact (below_size (pB_ HB.out)));(case aL=>have:=LMc46.out;omega);rintro e w55 ⟨Xf1,rfl,ho,hb,hg,hat⟩;refine ⟨_,rfl,?_⟩;clear hj_ hl_;rw [← Ny456.out] at ho;have n_:=an_ (blk_grown (g:=Xb) (o:=.cells #[I L a0_0,I L a0_1,I L a0_2,I L a0_3,Y (some ad447) l0_4.length c0_4] 34 (0,0)) (by exact pP_ Ka.out) hg (Kd.R_ne Md.out Ka.out (by decide)))<|an_ (blk_grown (g:=Ma) (o:=.cells #[I L 0,I L 0,I L 0,I L 0,Y none 0 0] 34 (0,0)) (by exact pP_ Ja.out) hg (Kd.R_ne Md.out Ja.out (by decide)))<|an_ (blk_grown (g:=Xa) (o:=.cells #[I L Kb,I L Ob,I L Uc,I L Jd,Y Jf Jc.length Kf] 34 (0,0)) (by exact pP_ Oa.out) hg (Kd.R_ne Md.out Oa.out (by decide)))<|an_ (hb)<|D (ho);clear Ka Ja Oa HB Md;obtain ⟨Ka,Ja,Oa,HB,Um⟩:=n_;clear ho hb hg hat;obtain ⟨Jg,Kg,eo56⟩:=Kd.R_slice Um.out;subst eo56;have Jg1:=cells5 Oa.out;have Uh1:=cells5 Ja.out))
             refine bodyPost_ret (results_ct rfl _ _ Ma 34 #[I L Kb,I L Ob,I L Uc,I L Jd,Y Jg y456.length Kg] (0,0) _ rfl (by exact pP_ Ja.out) Try.underlying34 rfl (by kernel_rfl)) rfl ?_;exact ⟨_,er_,by (with_reducible repeat (first|apply Kd.R_alloc|apply Kd.R_drewN|apply Kd.R_drew));exact Kd.R_mono (fr_ (fr_ (fr_ (fr_ (fr_ (Kd.R_far (p:=⟨Xa,4,none⟩) (Kd.R_types (Kd.R_types Um.out Oa.out (by decide)) Ja.out (by decide)) (fun _ hk=>hk.1.2) (Y Jg y456.length Kg)) 0 (I L Kb)) 1 (I L Ob)) 2 (I L Uc)) 3 (I L Jd)) 4 (Y Jg y456.length Kg)) (fun _ hk=>trivial),pB_ HB.out⟩
            ·rw [if_neg c46] at H
             exact absurd H (by simp)
           ·rw [if_neg c45] at H
            exact absurd H (by simp)
         ·rw [if_neg c39] at H
          exact absurd H (by simp)
        ·rw [if_neg c38] at H
         have c38b0:decide (x8_2 < (l0_4.length:Int))=false:=decide_eq_false c38;clear c38;obtain ⟨⟨Mb,Ub,Xc,Od,Kc⟩,A590,H⟩:=bs_.mp H;(try dsimp only at H);have A59:=D A590;clear A590
         by_cases c60 : 0 ≤ x8_2
         ·rw [if_pos c60] at H
          have c60b0 := eq_true c60; have c60b1 : decide (0 ≤ x8_2) = true := decide_eq_true c60; clear c60
          by_cases c61 : x8_2 ≤ (Kc.length : Int)
          ·rw [if_pos c61] at H
           have c61b0 := eq_true c61; have c61b1 : decide (x8_2 ≤ (Kc.length : Int)) = true := decide_eq_true c61; clear c61
           by_cases c62 : Kc.length < 2932031007402
           ·rw [if_pos c62] at H
            have LMc62:=D c62;clear c62;obtain ⟨y467,hy467⟩:∃ y_:List (S67),y_=(Kc.take (x8_2:Int).toNat ++ ([(⟨a1,a2,false,(⟨0,0,0⟩:S31)⟩:S67)] ++ Kc.drop (x8_2:Int).toNat)):=⟨_,rfl⟩
            replace H:(some (Mb,Ub,Xc,Od,y467,0))=some (r1,r2,r3,r4,r5,r6):=by first|(rw [hy467];with_reducible exact H)|(have H2_:=(Option.bind_some _ _).symm.trans H;rw [hy467];with_reducible exact H2_)|(have H2_:=(Option.bind_some _ _).symm.trans H;with_reducible exact H2_)|with_reducible exact H|(rw [hy467];exact H)|exact H
            have Ny467:=D hy467;clear hy467;simp only [Option.some.injEq,Prod.mk.injEq] at H;obtain ⟨rfl,rfl,rfl,rfl,rfl,rfl⟩:=H;(try have:=Mc.out);(try have:=Oc.out);have Mj1:=cells5 Ka.out
            go_wp2_with (first|((with_reducible refine gate_callee (f:=44) rfl ?_);refine goesL_ (some 55) rfl rfl Try.func44 (by kernel_rfl) rfl #[.agg #[I L a0_0,I L a0_1,I L a0_2,I L a0_3,Y A0_4 l0_4.length c0_4]] rfl Z17 ?_;(with_reducible refine (impl_copyFair.calls a0_0 a0_1 a0_2 a0_3 _ _ l0_4 Mb Ub Xc Od Kc _ ?side1 ?side2 A59.out).mono ?_);(case side1=>exact pC_ (Kd.C_below HR0_4.out HB.out));(case side2=>exact HC0_4.out);rintro e w65 ⟨Jm1,rfl,ho0,hb⟩;refine ⟨_,rfl,?_⟩;have n_:=an_ (Kd.R_lower ho0 (below_size (pB_ HB.out)))<|an_ (blk_below (pk_ Ka.out) hb)<|an_ (blk_below (pk_ Ja.out) hb)<|D (below_step (pB_ HB.out) hb);clear Ka Ja HB;obtain ⟨Ud,Ka,Ja,HB⟩:=n_;(try clear hb);(try clear ho0))|((with_reducible refine gate_dst (N:=9) rfl ?_);refine bx_ (N:=9) (cs:=#[I L 0,I L 0,I L 0,I L 0,Y none 0 0]) (t:=34) ?_;intro Jb hg w66 hbox hb;have n_:=an_ (Kd.R_below (pR_ Ud.out) hb)<|an_ (blk_below (pk_ Ka.out) hb)<|an_ (blk_below (pk_ Ja.out) hb)<|an_ (below_step (pB_ HB.out) hb)<|an_ (hbox)<|an_ (bg_ hg (pB_ HB.out):w.heap.size≤Jb)<|an_ (bg_ hg (pB_ HB.out):w.heap.size≤Jb)<|an_ (nl_ hg (pk_ Ka.out):Xb≠Jb)<|an_ (ng_ hg (pk_ Ka.out):Jb≠Xb)<|an_ (nl_ hg (pk_ Ja.out):Ma≠Jb)<|D (by rw [hg];exact Nat.ne_of_gt (blk_lt (pk_ Ja.out)):Jb≠Ma);clear Ud Ka Ja HB;obtain ⟨Ud,Ka,Ja,HB,Ua,Km1,Mm1,Me,Mz,Je,Oz⟩:=n_;clear hb hbox hg;(try have:=Mz.out);(try have:=Me.out);(try have:=Oz.out);(try have:=Je.out);have Om1:=cells5 Ua.out;obtain ⟨Mf,Of,eo70⟩:=Kd.R_slice Ud.out;subst eo70)|((with_reducible refine gate_callee (f:=45) rfl ?_);have hj_:0≤(x8_2:Int):=od_ Z48;have hl_:(x8_2:Int)≤(Kc.length:Int):=od_ Z48;refine goesL_ (some 63) rfl rfl Try.func45 (by kernel_rfl) rfl #[Y Mf Kc.length Of,I L x8_2,Y (some ⟨_,0,none⟩) 1 1] rfl Z28 ?_;refine (ins45_ (w0:=w) (base:=w.heap.size) (ok:=(fun _=>True)) (okp:=fun _=>False) (xs:=Kc) (p:=(⟨a1,a2,false,(⟨0,0,0⟩:S31)⟩:S67)) (cs:=[I L a1,I L a2,.bool false,I L 0,I L 0,I L 0]) ?aV ?aP (fun _ hk=>hk.elim) ?aF ?aO ?aB ?aS ?aL hj_ hl_).mono ?_;(case aV=>first|rfl|(simp;done)|(go_simp;done));(case aP=>exact k67_mkM _ _ _ (⟨a1,a2,false,(⟨0,0,0⟩:S31)⟩:S67));(case aB=>exact (pB_ HB.out));(case aF=>exact (fun _ _=>trivial));(case aO=>exact (rM_ (Kd.R_types Ud.out Ua.out (by decide)) (fun _ hk=>trivial)));(case aS=>exact (below_size (pB_ HB.out)));(case aL=>have:=LMc62.out;omega);rintro e w71 ⟨Ko1,rfl,ho,hb,hg,hat⟩;refine ⟨_,rfl,?_⟩;clear hj_ hl_;rw [← Ny467.out] at ho;have n_:=an_ (blk_grown (g:=Xb) (o:=.cells #[I L a0_0,I L a0_1,I L a0_2,I L a0_3,Y A0_4 l0_4.length c0_4] 34 (0,0)) (by exact pP_ Ka.out) hg (Kd.R_ne Ud.out Ka.out (by decide)))<|an_ (blk_grown (g:=Ma) (o:=.cells #[I L 0,I L 0,I L 0,I L 0,Y none 0 0] 34 (0,0)) (by exact pP_ Ja.out) hg (Kd.R_ne Ud.out Ja.out (by decide)))<|an_ (blk_grown (g:=Jb) (o:=.cells #[I L Mb,I L Ub,I L Xc,I L Od,Y Mf Kc.length Of] 34 (0,0)) (by exact pP_ Ua.out) hg (Kd.R_ne Ud.out Ua.out (by decide)))<|an_ (hb)<|D (ho);clear Ka Ja Ua HB Ud;obtain ⟨Ka,Ja,Ua,HB,Xm⟩:=n_;clear ho hb hg hat;obtain ⟨Mg,Og,eo72⟩:=Kd.R_slice Xm.out;subst eo72;have Mo1:=cells5 Ua.out;have Jq1:=cells5 Ja.out))
            refine bodyPost_ret (results_ct rfl _ _ Ma 34 #[I L Mb,I L Ub,I L Xc,I L Od,Y Mg y467.length Og] (0,0) _ rfl (by exact pP_ Ja.out) Try.underlying34 rfl (by kernel_rfl)) rfl ?_;exact ⟨_,er_,by (with_reducible repeat (first|apply Kd.R_alloc|apply Kd.R_drewN|apply Kd.R_drew));exact Kd.R_mono (fr_ (fr_ (fr_ (fr_ (fr_ (Kd.R_far (p:=⟨Jb,4,none⟩) (Kd.R_types (Kd.R_types Xm.out Ua.out (by decide)) Ja.out (by decide)) (fun _ hk=>hk.1.2) (Y Mg y467.length Og)) 0 (I L Mb)) 1 (I L Ub)) 2 (I L Xc)) 3 (I L Od)) 4 (Y Mg y467.length Og)) (fun _ hk=>trivial),pB_ HB.out⟩
           ·rw [if_neg c62] at H
            exact absurd H (by simp)
          ·rw [if_neg c61] at H
           exact absurd H (by simp)
         ·rw [if_neg c60] at H
          exact absurd H (by simp)

/-! ### impl_TreeFlow_1: function 20 -/
def impl_TreeFlow_1.f (k : Nat) (a0_0 a0_1 a0_2 a0_3 : Int) (l0_4 : List (S67)) (a1_0 a2_0 : Int) : Option (Int × Int × Int × Int × (List (S67)) × Int) := (impl_FairJoin.f k a0_0 a0_1 a0_2 a0_3 l0_4 a1_0 a2_0).bind fun bt472 => (some (bt472.1, bt472.2.1, bt472.2.2.1, bt472.2.2.2.1, bt472.2.2.2.2.1, bt472.2.2.2.2.2))
set_option maxHeartbeats 8000000 in
set_option maxRecDepth 100000 in
theorem impl_TreeFlow_1.calls (k : Nat) (a0_0 a0_1 a0_2 a0_3 : Int) (A0_4 : Option Addr) (c0_4 : Nat) (l0_4 : List (S67)) (gc1 : Nat) (a1_0 : Int) (gc2 : Nat) (a2_0 r1 r2 r3 r4 : Int) (r5 : List (S67)) (r6 : Int) (w : World) (hr0_4 : Kd.C k67 w A0_4 l0_4.length l0_4) (hc0_4 : l0_4.length ≤ c0_4) (hbx1 : w.heap[gc1]? = some (.cells #[I L a1_0] 3 (0, 0))) (hbx2 : w.heap[gc2]? = some (.cells #[I L a2_0] 3 (0, 0))) (h : impl_TreeFlow_1.f k a0_0 a0_1 a0_2 a0_3 l0_4 a1_0 a2_0 = some (r1, r2, r3, r4, r5, r6)) :
  Calls Try.prog 20 #[.agg #[I L a0_0,I L a0_1,I L a0_2,I L a0_3,Y A0_4 l0_4.length c0_4],.pointer (some ⟨gc1,0,none⟩),.pointer (some ⟨gc2,0,none⟩)] w fun e w'=>∃ v4_:Value,e=.returned (.tuple #[.agg #[I L r1,I L r2,I L r3,I L r4,v4_],I L r6])∧Kd.R k67 67 w' w.heap.size (fun _=>True) v4_ r5∧Below w.heap.size w w':=by
 have hu34 := Try.underlying34
 have HR0_4 := D hr0_4
 have HC0_4 := D hc0_4
 clear hr0_4 hc0_4
 have BK1 := D hbx1
 clear hbx1
 have BK2 := D hbx2
 clear hbx2
 have HB := D (Below.refl w.heap.size w)
 have H:((impl_FairJoin.f k a0_0 a0_1 a0_2 a0_3 l0_4 a1_0 a2_0).bind fun bt472=>(some (bt472.1,bt472.2.1,bt472.2.2.1,bt472.2.2.2.1,bt472.2.2.2.2.1,bt472.2.2.2.2.2)))=some (r1,r2,r3,r4,r5,r6):=h
 clear h
 obtain ⟨⟨t472, t473, t474, t475, t476, t479⟩, A40, H⟩ := bs_.mp H
 (try dsimp only at H)
 have A4 := D A40
 clear A40
 simp only [Option.some.injEq, Prod.mk.injEq] at H
 obtain ⟨rfl, rfl, rfl, rfl, rfl, rfl⟩ := H
 go_enter Try.func20, Try.ntmps20
 go_wp2_with (first|((with_reducible refine gate_dst (N:=3) rfl ?_);refine bx_ (N:=3) (cs:=#[I L a0_0,I L a0_1,I L a0_2,I L a0_3,Y A0_4 l0_4.length c0_4]) (t:=34) ?_;intro gb470 hg w5 hbox hb;have n_:=an_ (blk_below (pk_ BK1.out) hb)<|an_ (blk_below (pk_ BK2.out) hb)<|an_ (below_step (pB_ HB.out) hb)<|an_ (hbox)<|an_ (bg_ hg (pB_ HB.out):w.heap.size≤gb470)<|an_ (bg_ hg (pB_ HB.out):w.heap.size≤gb470)<|an_ (nl_ hg (pk_ BK1.out):gc1≠gb470)<|an_ (ng_ hg (pk_ BK1.out):gb470≠gc1)<|an_ (nl_ hg (pk_ BK2.out):gc2≠gb470)<|D (by rw [hg];exact Nat.ne_of_gt (blk_lt (pk_ BK2.out)):gb470≠gc2);clear BK1 BK2 HB;obtain ⟨BK1,BK2,HB,BK470,GW470,GE470,NB1_470,NB470_1,NB2_470,NB470_2⟩:=n_;clear hb hbox hg)|((with_reducible refine gate_dst (N:=4) rfl ?_);refine bx_ (N:=4) (cs:=#[I L 0,I L 0,I L 0,I L 0,Y none 0 0]) (t:=34) ?_;intro gb471 hg w6 hbox hb;have n_:=an_ (blk_below (pk_ BK1.out) hb)<|an_ (blk_below (pk_ BK2.out) hb)<|an_ (blk_below (pk_ BK470.out) hb)<|an_ (below_step (pB_ HB.out) hb)<|an_ (hbox)<|an_ (bg_ hg (pB_ HB.out):w.heap.size≤gb471)<|an_ (bg_ hg (pB_ HB.out):w.heap.size≤gb471)<|an_ (nl_ hg (pk_ BK1.out):gc1≠gb471)<|an_ (ng_ hg (pk_ BK1.out):gb471≠gc1)<|an_ (nl_ hg (pk_ BK2.out):gc2≠gb471)<|an_ (ng_ hg (pk_ BK2.out):gb471≠gc2)<|an_ (nl_ hg (pk_ BK470.out):gb470≠gb471)<|D (by rw [hg];exact Nat.ne_of_gt (blk_lt (pk_ BK470.out)):gb471≠gb470);clear BK1 BK2 BK470 HB;obtain ⟨BK1,BK2,BK470,HB,BK471,GW471,GE471,NB1_471,NB471_1,NB2_471,NB471_2,NB470_471,NB471_470⟩:=n_;clear hb hbox hg;(try have:=NB470_1.out);(try have:=NB1_470.out);(try have:=NB470_2.out);(try have:=NB2_470.out);(try have:=NB470_471.out);(try have:=NB471_470.out);have hcz10_0:=cells5 BK470.out;(try have:=NB1_2.out);(try have:=NB2_1.out);(try have:=NB1_471.out);(try have:=NB471_1.out);have hcz13_0:=cells1 BK1.out;(try have:=NB2_471.out);(try have:=NB471_2.out);have hcz15_0:=cells1 BK2.out)|((with_reducible refine gate_callee (f:=21) rfl ?_);refine goesL_ (some 9) rfl rfl Try.func21 (by kernel_rfl) rfl #[.agg #[I L a0_0,I L a0_1,I L a0_2,I L a0_3,Y A0_4 l0_4.length c0_4],I L a1_0,I L a2_0] rfl Z17 ?_;(with_reducible refine (impl_FairJoin.calls k a0_0 a0_1 a0_2 a0_3 _ _ l0_4 a1_0 a2_0 t472 t473 t474 t475 t476 t479 _ ?side1 ?side2 A4.out).mono ?_);(case side1=>exact pC_ (Kd.C_below HR0_4.out HB.out));(case side2=>exact HC0_4.out);rintro e w16 ⟨v477,rfl,ho0,hb⟩;refine ⟨_,rfl,?_⟩;have n_:=an_ (Kd.R_lower ho0 (below_size (pB_ HB.out)))<|an_ (blk_below (pk_ BK1.out) hb)<|an_ (blk_below (pk_ BK2.out) hb)<|an_ (blk_below (pk_ BK470.out) hb)<|an_ (blk_below (pk_ BK471.out) hb)<|D (below_step (pB_ HB.out) hb);clear BK1 BK2 BK470 BK471 HB;obtain ⟨HO478,BK1,BK2,BK470,BK471,HB⟩:=n_;(try clear hb);(try clear ho0);have hcz17_0:=cells5 BK471.out;obtain ⟨Ao18,co18,eo18⟩:=Kd.R_slice HO478.out;subst eo18))
 refine bodyPost_ret (results_ct rfl _ _ gb471 34 #[I L t472,I L t473,I L t474,I L t475,Y Ao18 t476.length co18] (0,0) _ rfl (by exact pP_ BK471.out) Try.underlying34 rfl (by kernel_rfl)) rfl ?_
 exact ⟨_,er_,by (with_reducible repeat (first|apply Kd.R_alloc|apply Kd.R_drewN|apply Kd.R_drew));exact Kd.R_mono (fr_ (fr_ (fr_ (fr_ (fr_ (Kd.R_types HO478.out BK471.out (by decide)) 0 (I L t472)) 1 (I L t473)) 2 (I L t474)) 3 (I L t475)) 4 (Y Ao18 t476.length co18)) (fun _ hk=>trivial),pB_ HB.out⟩

/-! ### impl_TreeFlow: function 7 -/
def impl_TreeFlow.f (k : Nat) (a0_0 a0_1 a0_2 a0_3 : Int) (l0_4 : List (S67)) (l0_5 : List (S50)) (a1 a2 a3 : Int) : Option (Int × Int × Int × Int × (List (S67)) × (List (S50)) × Int) := (impl_Tree_change.f k a0_0 a0_1 a0_2 a0_3 l0_4 l0_5 a1 (fun z0_ z1_ z2_ z3_ z4_ => impl_TreeFlow_1.f k z0_ z1_ z2_ z3_ z4_ a2 a3)).bind fun bt484 => (some (bt484.1, bt484.2.1, bt484.2.2.1, bt484.2.2.2.1, bt484.2.2.2.2.1, bt484.2.2.2.2.2.1, bt484.2.2.2.2.2.2.2))
set_option maxHeartbeats 8000000 in
set_option maxRecDepth 100000 in
theorem impl_TreeFlow.calls (k : Nat) (a0_0 a0_1 a0_2 a0_3 : Int) (A0_4 : Option Addr) (c0_4 : Nat) (l0_4 : List (S67)) (A0_5 : Option Addr) (c0_5 : Nat) (l0_5 : List (S50)) (a1 a2 a3 r1 r2 r3 r4 : Int) (r5 : List (S67)) (r6 : List (S50)) (r7 : Int) (w : World) (hr0_4 : Kd.C k67 w A0_4 l0_4.length l0_4) (hc0_4 : l0_4.length ≤ c0_4) (hr0_5 : Kd.C k50 w A0_5 l0_5.length l0_5) (hc0_5 : l0_5.length ≤ c0_5) (h : impl_TreeFlow.f k a0_0 a0_1 a0_2 a0_3 l0_4 l0_5 a1 a2 a3 = some (r1, r2, r3, r4, r5, r6, r7)) :
  Calls Try.prog 7 #[.agg #[I L a0_0,I L a0_1,I L a0_2,I L a0_3,Y A0_4 l0_4.length c0_4,Y A0_5 l0_5.length c0_5],I L a1,I L a2,I L a3] w fun e w'=>∃ v4_ v5_:Value,e=.returned (.tuple #[.agg #[I L r1,I L r2,I L r3,I L r4,v4_,v5_],I L r7])∧Kd.R k67 67 w' w.heap.size (fun _=>True) v4_ r5∧Kd.S k50 50 w' w.heap.size (fun k_=>some k_≠(v4_:Value).ownBlock) v5_ r6∧Below w.heap.size w w':=by
 have hu37 := Try.underlying37
 have hmf : ∀ (fn : Fn) (first cap : Array Value) (w : World), (Instr.makeFunc fn first cap).run Try.prog w = .ok (.func fn first cap) w := fun _ _ _ _ => rfl
 have HR0_4 := D hr0_4
 have HC0_4 := D hc0_4
 clear hr0_4 hc0_4
 have HR0_5 := D hr0_5
 have HC0_5 := D hc0_5
 clear hr0_5 hc0_5
 have HB := D (Below.refl w.heap.size w)
 have H:((impl_Tree_change.f k a0_0 a0_1 a0_2 a0_3 l0_4 l0_5 a1 (fun z0_ z1_ z2_ z3_ z4_=>impl_TreeFlow_1.f k z0_ z1_ z2_ z3_ z4_ a2 a3)).bind fun bt484=>(some (bt484.1,bt484.2.1,bt484.2.2.1,bt484.2.2.2.1,bt484.2.2.2.2.1,bt484.2.2.2.2.2.1,bt484.2.2.2.2.2.2.2)))=some (r1,r2,r3,r4,r5,r6,r7):=h
 clear h
 obtain ⟨⟨t484, t485, t486, t487, t488, t491, t494, t495⟩, A50, H⟩ := bs_.mp H
 (try dsimp only at H)
 have A5 := D A50
 clear A50
 simp only [Option.some.injEq, Prod.mk.injEq] at H
 obtain ⟨rfl, rfl, rfl, rfl, rfl, rfl, rfl⟩ := H
 go_enter Try.func7, Try.ntmps7
 go_wp2_with (first|((with_reducible refine gate_dst (N:=4) rfl ?_);refine bx_ (N:=4) (cs:=#[I L a0_0,I L a0_1,I L a0_2,I L a0_3,Y A0_4 l0_4.length c0_4,Y A0_5 l0_5.length c0_5]) (t:=37) ?_;intro gb480 hg w6 hbox hb;have n_:=an_ (below_step (pB_ HB.out) hb)<|an_ (hbox)<|an_ (bg_ hg (pB_ HB.out):w.heap.size≤gb480)<|D (bg_ hg (pB_ HB.out):w.heap.size≤gb480);clear HB;obtain ⟨HB,BK480,GW480,GE480⟩:=n_;clear hb hbox hg)|((with_reducible refine gate_dst (N:=6) rfl ?_);refine bx_ (N:=6) (cs:=#[I L a2]) (t:=3) ?_;intro gb481 hg w7 hbox hb;have n_:=an_ (blk_below (pk_ BK480.out) hb)<|an_ (below_step (pB_ HB.out) hb)<|an_ (hbox)<|an_ (bg_ hg (pB_ HB.out):w.heap.size≤gb481)<|an_ (bg_ hg (pB_ HB.out):w.heap.size≤gb481)<|an_ (nl_ hg (pk_ BK480.out):gb480≠gb481)<|D (by rw [hg];exact Nat.ne_of_gt (blk_lt (pk_ BK480.out)):gb481≠gb480);clear BK480 HB;obtain ⟨BK480,HB,BK481,GW481,GE481,NB480_481,NB481_480⟩:=n_;clear hb hbox hg)|((with_reducible refine gate_dst (N:=7) rfl ?_);refine bx_ (N:=7) (cs:=#[I L a3]) (t:=3) ?_;intro gb482 hg w8 hbox hb;have n_:=an_ (blk_below (pk_ BK480.out) hb)<|an_ (blk_below (pk_ BK481.out) hb)<|an_ (below_step (pB_ HB.out) hb)<|an_ (hbox)<|an_ (bg_ hg (pB_ HB.out):w.heap.size≤gb482)<|an_ (bg_ hg (pB_ HB.out):w.heap.size≤gb482)<|an_ (nl_ hg (pk_ BK480.out):gb480≠gb482)<|an_ (ng_ hg (pk_ BK480.out):gb482≠gb480)<|an_ (nl_ hg (pk_ BK481.out):gb481≠gb482)<|D (by rw [hg];exact Nat.ne_of_gt (blk_lt (pk_ BK481.out)):gb482≠gb481);clear BK480 BK481 HB;obtain ⟨BK480,BK481,HB,BK482,GW482,GE482,NB480_482,NB482_480,NB481_482,NB482_481⟩:=n_;clear hb hbox hg)|((with_reducible refine gate_dst (N:=8) rfl ?_);refine bx_ (N:=8) (cs:=#[I L 0,I L 0,I L 0,I L 0,Y none 0 0,Y none 0 0]) (t:=37) ?_;intro gb483 hg w9 hbox hb;have n_:=an_ (blk_below (pk_ BK480.out) hb)<|an_ (blk_below (pk_ BK481.out) hb)<|an_ (blk_below (pk_ BK482.out) hb)<|an_ (below_step (pB_ HB.out) hb)<|an_ (hbox)<|an_ (bg_ hg (pB_ HB.out):w.heap.size≤gb483)<|an_ (bg_ hg (pB_ HB.out):w.heap.size≤gb483)<|an_ (nl_ hg (pk_ BK480.out):gb480≠gb483)<|an_ (ng_ hg (pk_ BK480.out):gb483≠gb480)<|an_ (nl_ hg (pk_ BK481.out):gb481≠gb483)<|an_ (ng_ hg (pk_ BK481.out):gb483≠gb481)<|an_ (nl_ hg (pk_ BK482.out):gb482≠gb483)<|D (by rw [hg];exact Nat.ne_of_gt (blk_lt (pk_ BK482.out)):gb483≠gb482);clear BK480 BK481 BK482 HB;obtain ⟨BK480,BK481,BK482,HB,BK483,GW483,GE483,NB480_483,NB483_480,NB481_483,NB483_481,NB482_483,NB483_482⟩:=n_;clear hb hbox hg;(try have:=NB480_481.out);(try have:=NB481_480.out);(try have:=NB480_482.out);(try have:=NB482_480.out);(try have:=NB480_483.out);(try have:=NB483_480.out);have hcz13_0:=cells6 BK480.out)|((with_reducible refine gate_callee (f:=19) rfl ?_);refine goesL_ (some 17) rfl rfl Try.func19 (by kernel_rfl) rfl #[.agg #[I L a0_0,I L a0_1,I L a0_2,I L a0_3,Y A0_4 l0_4.length c0_4,Y A0_5 l0_5.length c0_5],I L a1,.func (.func 20) #[] #[.pointer (some ⟨gb481,0,none⟩),.pointer (some ⟨gb482,0,none⟩)]] rfl Z17 ?_;(with_reducible refine (impl_Tree_change.calls k a0_0 a0_1 a0_2 a0_3 _ _ l0_4 _ _ l0_5 a1 (fun z0_ z1_ z2_ z3_ z4_=>impl_TreeFlow_1.f k z0_ z1_ z2_ z3_ z4_ a2 a3) 20 #[.pointer (some ⟨gb481,0,none⟩),.pointer (some ⟨gb482,0,none⟩)] t484 t485 t486 t487 t488 t491 t494 t495 _ ?side1 ?side2 ?side3 ?side4 ?side5 ?side6 A5.out).mono ?_);(case side1=>exact pC_ (Kd.C_below HR0_4.out HB.out));(case side2=>exact HC0_4.out);(case side3=>exact pC_ (Kd.C_below HR0_5.out HB.out));(case side4=>exact HC0_5.out);(case side5=>exact ⟨⟨_,Try.func20,by kernel_rfl,rfl⟩⟩);(case side6=>refine ⟨?_⟩;intro a900_0 a900_1 a900_2 a900_3 A900_4 c900_4 l900_4 rr0_ rr1_ rr2_ rr3_ rr4_ rr5_ W_ hW_ hr900_4 hc900_4 h_;refine calls_of_args (args':=#[.agg #[I L a900_0,I L a900_1,I L a900_2,I L a900_3,Y A900_4 l900_4.length c900_4],.pointer (some ⟨gb481,0,none⟩),.pointer (some ⟨gb482,0,none⟩)]) (by simp) ?_;refine (impl_TreeFlow_1.calls k a900_0 a900_1 a900_2 a900_3 A900_4 c900_4 l900_4 gb481 a2 gb482 a3 rr0_ rr1_ rr2_ rr3_ rr4_ rr5_ W_ hr900_4 hc900_4 (blk_below (pk_ BK481.out) hW_) (blk_below (pk_ BK482.out) hW_) h_).mono ?_;rintro e w' ⟨vv4_,rfl,ho4_,hd_⟩;exact ⟨vv4_,rfl,ho4_,hd_⟩);rintro e w14 ⟨v489,v492,rfl,ho0,ho1,hb⟩;refine ⟨_,rfl,?_⟩;have n_:=an_ (Kd.R_lower ho0 (below_size (pB_ HB.out)))<|an_ (Kd.S_lower ho1 (below_size (pB_ HB.out)))<|an_ (blk_below (pk_ BK480.out) hb)<|an_ (blk_below (pk_ BK481.out) hb)<|an_ (blk_below (pk_ BK482.out) hb)<|an_ (blk_below (pk_ BK483.out) hb)<|D (below_step (pB_ HB.out) hb);clear BK480 BK481 BK482 BK483 HB;obtain ⟨HO490,HO493,BK480,BK481,BK482,BK483,HB⟩:=n_;(try clear hb);(try clear ho0);(try clear ho1))|((with_reducible refine gate_dst (N:=10) rfl ?_);refine bx_ (N:=10) (cs:=#[I L 0,I L 0,I L 0,I L 0,Y none 0 0,Y none 0 0]) (t:=37) ?_;intro gb496 hg w15 hbox hb;have n_:=an_ (Kd.R_below (pR_ HO490.out) hb)<|an_ (Kd.S_below (pS_ HO493.out) hb)<|an_ (blk_below (pk_ BK480.out) hb)<|an_ (blk_below (pk_ BK481.out) hb)<|an_ (blk_below (pk_ BK482.out) hb)<|an_ (blk_below (pk_ BK483.out) hb)<|an_ (below_step (pB_ HB.out) hb)<|an_ (hbox)<|an_ (bg_ hg (pB_ HB.out):w.heap.size≤gb496)<|an_ (bg_ hg (pB_ HB.out):w.heap.size≤gb496)<|an_ (nl_ hg (pk_ BK480.out):gb480≠gb496)<|an_ (ng_ hg (pk_ BK480.out):gb496≠gb480)<|an_ (nl_ hg (pk_ BK481.out):gb481≠gb496)<|an_ (ng_ hg (pk_ BK481.out):gb496≠gb481)<|an_ (nl_ hg (pk_ BK482.out):gb482≠gb496)<|an_ (ng_ hg (pk_ BK482.out):gb496≠gb482)<|an_ (nl_ hg (pk_ BK483.out):gb483≠gb496)<|D (by rw [hg];exact Nat.ne_of_gt (blk_lt (pk_ BK483.out)):gb496≠gb483);clear HO490 HO493 BK480 BK481 BK482 BK483 HB;obtain ⟨HO490,HO493,BK480,BK481,BK482,BK483,HB,BK496,GW496,GE496,NB480_496,NB496_480,NB481_496,NB496_481,NB482_496,NB496_482,NB483_496,NB496_483⟩:=n_;clear hb hbox hg;(try have:=NB496_480.out);(try have:=NB480_496.out);(try have:=NB496_481.out);(try have:=NB481_496.out);(try have:=NB496_482.out);(try have:=NB482_496.out);(try have:=NB496_483.out);(try have:=NB483_496.out);have hcz20_0:=cells6 BK496.out;obtain ⟨Ao21,co21,eo21⟩:=Kd.R_slice HO490.out;subst eo21;obtain ⟨Ao22,co22,eo22⟩:=Kd.S_slice HO493.out;subst eo22;(try have:=NB483_481.out);(try have:=NB481_483.out);(try have:=NB483_482.out);(try have:=NB482_483.out);have hcz25_0:=cells6 BK483.out))
 refine bodyPost_ret (results_ct rfl _ _ gb483 37 #[I L t484,I L t485,I L t486,I L t487,Y Ao21 t488.length co21,Y Ao22 t491.length co22] (0,0) _ rfl (by exact pP_ BK483.out) Try.underlying37 rfl (by kernel_rfl)) rfl ?_
 exact ⟨_,_,er_,by (with_reducible repeat (first|apply Kd.R_alloc|apply Kd.R_drewN|apply Kd.R_drew));exact Kd.R_mono (fr_ (fr_ (fr_ (fr_ (fr_ (fr_ (Kd.R_far (p:=⟨gb496,5,none⟩) (Kd.R_far (p:=⟨gb496,4,none⟩) (Kd.R_far (p:=⟨gb496,3,none⟩) (Kd.R_far (p:=⟨gb496,2,none⟩) (Kd.R_far (p:=⟨gb496,1,none⟩) (Kd.R_far (p:=⟨gb496,0,none⟩) (Kd.R_types (Kd.R_types HO490.out BK496.out (by decide)) BK483.out (by decide)) (fun _ hk=>hk.1.2) (I L t484)) (fun _ hk=>hk.1.2) (I L t485)) (fun _ hk=>hk.1.2) (I L t486)) (fun _ hk=>hk.1.2) (I L t487)) (fun _ hk=>hk.1.2) (Y Ao21 t488.length co21)) (fun _ hk=>hk.1.2) (Y Ao22 t491.length co22)) 0 (I L t484)) 1 (I L t485)) 2 (I L t486)) 3 (I L t487)) 4 (Y Ao21 t488.length co21)) 5 (Y Ao22 t491.length co22)) (fun _ hk=>trivial),by (with_reducible repeat (first|apply Kd.S_alloc|apply Kd.S_drewN|apply Kd.S_drew));exact Kd.S_mono (Kd.S_far (p:=⟨gb483,5,none⟩) (Kd.S_far (p:=⟨gb483,4,none⟩) (Kd.S_far (p:=⟨gb483,3,none⟩) (Kd.S_far (p:=⟨gb483,2,none⟩) (Kd.S_far (p:=⟨gb483,1,none⟩) (Kd.S_far (p:=⟨gb483,0,none⟩) (Kd.S_far (p:=⟨gb496,5,none⟩) (Kd.S_far (p:=⟨gb496,4,none⟩) (Kd.S_far (p:=⟨gb496,3,none⟩) (Kd.S_far (p:=⟨gb496,2,none⟩) (Kd.S_far (p:=⟨gb496,1,none⟩) (Kd.S_far (p:=⟨gb496,0,none⟩) (Kd.S_types (Kd.S_types HO493.out BK496.out (by decide)) BK483.out (by decide)) (fun _ hk=>hk.1.2) (I L t484)) (fun _ hk=>hk.1.2) (I L t485)) (fun _ hk=>hk.1.2) (I L t486)) (fun _ hk=>hk.1.2) (I L t487)) (fun _ hk=>hk.1.2) (Y Ao21 t488.length co21)) (fun _ hk=>hk.1.2) (Y Ao22 t491.length co22)) (fun _ hk=>hk.2) (I L t484)) (fun _ hk=>hk.2) (I L t485)) (fun _ hk=>hk.2) (I L t486)) (fun _ hk=>hk.2) (I L t487)) (fun _ hk=>hk.2) (Y Ao21 t488.length co21)) (fun _ hk=>hk.2) (Y Ao22 t491.length co22)) (fun _ hk=>hk.1.1),pB_ HB.out⟩

/-! ### laws_eqVec: function 46 -/
def laws_eqVec.f (a0_0 a0_1 a0_2 a1_0 a1_1 a1_2 : Int) : Option (Bool) := if a0_0 = a1_0 then (if a0_1 = a1_1 then (if a0_2 = a1_2 then (some true) else (some false)) else (some false)) else (some false)
set_option maxHeartbeats 8000000 in
set_option maxRecDepth 100000 in
theorem laws_eqVec.calls (a0_0 a0_1 a0_2 a1_0 a1_1 a1_2 : Int) (r : Bool) (w : World) (h : laws_eqVec.f a0_0 a0_1 a0_2 a1_0 a1_1 a1_2 = some r) :
  Calls Try.prog 46 #[.agg #[I L a0_0,I L a0_1,I L a0_2],.agg #[I L a1_0,I L a1_1,I L a1_2]] w fun e w'=>e=.returned (.bool r)∧Below w.heap.size w w':=by
 have hu31 := Try.underlying31
 have HB := D (Below.refl w.heap.size w)
 have H : (if a0_0 = a1_0 then (if a0_1 = a1_1 then (if a0_2 = a1_2 then (some true) else (some false)) else (some false)) else (some false)) = some r := h
 clear h
 have HU3 := D H
 clear H
 go_enter Try.func46, Try.ntmps46
 go_upto_if 9 with (first|((with_reducible refine gate_dst (N:=2) rfl ?_);refine bx_ (N:=2) (cs:=#[I L a0_0,I L a0_1,I L a0_2]) (t:=31) ?_;intro gb497 hg w4 hbox hb;have n_:=an_ (below_step (pB_ HB.out) hb)<|an_ (hbox)<|an_ (bg_ hg (pB_ HB.out):w.heap.size≤gb497)<|D (bg_ hg (pB_ HB.out):w.heap.size≤gb497);clear HB;obtain ⟨HB,BK497,GW497,GE497⟩:=n_;clear hb hbox hg)|((with_reducible refine gate_dst (N:=3) rfl ?_);refine bx_ (N:=3) (cs:=#[I L a1_0,I L a1_1,I L a1_2]) (t:=31) ?_;intro gb498 hg w5 hbox hb;have n_:=an_ (blk_below (pk_ BK497.out) hb)<|an_ (below_step (pB_ HB.out) hb)<|an_ (hbox)<|an_ (bg_ hg (pB_ HB.out):w.heap.size≤gb498)<|an_ (bg_ hg (pB_ HB.out):w.heap.size≤gb498)<|an_ (nl_ hg (pk_ BK497.out):gb497≠gb498)<|D (by rw [hg];exact Nat.ne_of_gt (blk_lt (pk_ BK497.out)):gb498≠gb497);clear BK497 HB;obtain ⟨BK497,HB,BK498,GW498,GE498,NB497_498,NB498_497⟩:=n_;clear hb hbox hg;(try have:=NB497_498.out);(try have:=NB498_497.out);have hcz7_0:=cells3 BK497.out;have hcz8_0:=cells3 BK498.out))
 have H := HU3.out
 clear HU3
 by_cases c9 : a0_0 = a1_0
 ·rw [if_pos c9] at H
  have c9b0:(a0_0 == a1_0)=true:=beq_iff_eq.mpr c9;have c9b1:(a0_0 != a1_0)=false:=bne_eq_false_iff_eq.mpr c9;clear c9;refine rw_ c9b0 ?_
  by_cases c10 : a0_1 = a1_1
  ·rw [if_pos c10] at H
   have c10b0 : (a0_1 == a1_1) = true := beq_iff_eq.mpr c10; have c10b1 : (a0_1 != a1_1) = false := bne_eq_false_iff_eq.mpr c10; clear c10
   by_cases c11 : a0_2 = a1_2
   ·rw [if_pos c11] at H
    have c11b0:(a0_2 == a1_2)=true:=beq_iff_eq.mpr c11;have c11b1:(a0_2 != a1_2)=false:=bne_eq_false_iff_eq.mpr c11;clear c11;obtain rfl:=Option.some.inj H;(try have:=NB497_498.out);(try have:=NB498_497.out);have hcz13_0:=cells3 BK497.out;have hcz14_0:=cells3 BK498.out
    go_wp2
    go_ret; exact ⟨er_, pB_ HB.out⟩
   ·rw [if_neg c11] at H
    have c11b0:(a0_2 == a1_2)=false:=beq_eq_false_iff_ne.mpr c11;have c11b1:(a0_2 != a1_2)=true:=bne_iff_ne.mpr c11;obtain rfl:=Option.some.inj H;(try have:=NB497_498.out);(try have:=NB498_497.out);have hcz16_0:=cells3 BK497.out;have hcz17_0:=cells3 BK498.out
    go_wp2
    go_ret; exact ⟨er_, pB_ HB.out⟩
  ·rw [if_neg c10] at H
   have c10b0:(a0_1 == a1_1)=false:=beq_eq_false_iff_ne.mpr c10;have c10b1:(a0_1 != a1_1)=true:=bne_iff_ne.mpr c10;obtain rfl:=Option.some.inj H;(try have:=NB497_498.out);(try have:=NB498_497.out);have hcz19_0:=cells3 BK497.out;have hcz20_0:=cells3 BK498.out
   go_wp2
   go_ret; exact ⟨er_, pB_ HB.out⟩
 ·rw [if_neg c9] at H
  have c9b0:(a0_0 == a1_0)=false:=beq_eq_false_iff_ne.mpr c9;have c9b1:(a0_0 != a1_0)=true:=bne_iff_ne.mpr c9;refine rw_ c9b0 ?_;obtain rfl:=Option.some.inj H
  go_wp2
  go_ret; exact ⟨er_, pB_ HB.out⟩

/-! ### laws_eqKid: function 64 -/
def laws_eqKid.f (a0_0 a0_1 : Int) (a0_2 : Bool) (a0_3 a0_4 a0_5 a1_0 a1_1 : Int) (a1_2 : Bool) (a1_3 a1_4 a1_5 : Int) : Option (Bool) := if a0_0 = a1_0 then (if a0_1 = a1_1 then (if (a0_2 != a1_2) = true then (some false) else ((laws_eqVec.f a0_3 a0_4 a0_5 a1_3 a1_4 a1_5).bind fun t501 => (if t501 = true then (some true) else (some false)))) else (some false)) else (some false)
set_option maxHeartbeats 8000000 in
set_option maxRecDepth 100000 in
theorem laws_eqKid.calls (a0_0 a0_1 : Int) (a0_2 : Bool) (a0_3 a0_4 a0_5 a1_0 a1_1 : Int) (a1_2 : Bool) (a1_3 a1_4 a1_5 : Int) (r : Bool) (w : World) (h : laws_eqKid.f a0_0 a0_1 a0_2 a0_3 a0_4 a0_5 a1_0 a1_1 a1_2 a1_3 a1_4 a1_5 = some r) :
  Calls Try.prog 64 #[.agg #[I L a0_0,I L a0_1,.bool a0_2,I L a0_3,I L a0_4,I L a0_5],.agg #[I L a1_0,I L a1_1,.bool a1_2,I L a1_3,I L a1_4,I L a1_5]] w fun e w'=>e=.returned (.bool r)∧Below w.heap.size w w':=by
 have hu67 := Try.underlying67
 have hu31 := Try.underlying31
 have HB := D (Below.refl w.heap.size w)
 have H:(if a0_0=a1_0 then (if a0_1=a1_1 then (if (a0_2 != a1_2)=true then (some false) else ((laws_eqVec.f a0_3 a0_4 a0_5 a1_3 a1_4 a1_5).bind fun t501=>(if t501=true then (some true) else (some false)))) else (some false)) else (some false))=some r:=h
 clear h
 have HU3 := D H
 clear H
 go_enter Try.func64, Try.ntmps64
 go_upto_if 9 with (first|((with_reducible refine gate_dst (N:=2) rfl ?_);refine bx_ (N:=2) (cs:=#[I L a0_0,I L a0_1,.bool a0_2,I L a0_3,I L a0_4,I L a0_5]) (t:=67) ?_;intro gb499 hg w4 hbox hb;have n_:=an_ (below_step (pB_ HB.out) hb)<|an_ (hbox)<|an_ (bg_ hg (pB_ HB.out):w.heap.size≤gb499)<|D (bg_ hg (pB_ HB.out):w.heap.size≤gb499);clear HB;obtain ⟨HB,BK499,GW499,GE499⟩:=n_;clear hb hbox hg)|((with_reducible refine gate_dst (N:=3) rfl ?_);refine bx_ (N:=3) (cs:=#[I L a1_0,I L a1_1,.bool a1_2,I L a1_3,I L a1_4,I L a1_5]) (t:=67) ?_;intro gb500 hg w5 hbox hb;have n_:=an_ (blk_below (pk_ BK499.out) hb)<|an_ (below_step (pB_ HB.out) hb)<|an_ (hbox)<|an_ (bg_ hg (pB_ HB.out):w.heap.size≤gb500)<|an_ (bg_ hg (pB_ HB.out):w.heap.size≤gb500)<|an_ (nl_ hg (pk_ BK499.out):gb499≠gb500)<|D (by rw [hg];exact Nat.ne_of_gt (blk_lt (pk_ BK499.out)):gb500≠gb499);clear BK499 HB;obtain ⟨BK499,HB,BK500,GW500,GE500,NB499_500,NB500_499⟩:=n_;clear hb hbox hg;(try have:=NB499_500.out);(try have:=NB500_499.out);have hcz7_0:=cells6 BK499.out;have hcz8_0:=cells6 BK500.out))
 have H := HU3.out
 clear HU3
 by_cases c9 : a0_0 = a1_0
 ·rw [if_pos c9] at H
  have c9b0:(a0_0 == a1_0)=true:=beq_iff_eq.mpr c9;have c9b1:(a0_0 != a1_0)=false:=bne_eq_false_iff_eq.mpr c9;clear c9;refine rw_ c9b0 ?_
  by_cases c10 : a0_1 = a1_1
  ·rw [if_pos c10] at H
   have c10b0 : (a0_1 == a1_1) = true := beq_iff_eq.mpr c10; have c10b1 : (a0_1 != a1_1) = false := bne_eq_false_iff_eq.mpr c10; clear c10
   by_cases c11 : (a0_2 != a1_2) = true
   ·rw [if_pos c11] at H
    have c11b0:(a0_2 != a1_2)=true:=c11;(try (have c11b1:decide (a0_2=a1_2)=false:=by simpa using c11));(try (have c11b2:(a0_2 == a1_2)=false:=by simpa using c11));(try (have c11b3:¬ (a0_2=a1_2):=by simpa using c11));clear c11;obtain rfl:=Option.some.inj H;(try have:=NB499_500.out);(try have:=NB500_499.out);have hcz13_0:=cells6 BK499.out;have hcz14_0:=cells6 BK500.out
    go_wp2
    go_ret; exact ⟨er_, pB_ HB.out⟩
   ·rw [if_neg c11] at H
    have c11b0 : (a0_2 != a1_2) = false := by simpa using c11
    (try (have c11b1:decide (a0_2=a1_2)=true:=by simpa using c11));(try (have c11b2:(a0_2 == a1_2)=true:=by simpa using c11));clear c11;obtain ⟨t501,A150,H⟩:=bs_.mp H;(try dsimp only at H);have A15:=D A150;clear A150;have HU16:=D H;clear H;(try have:=NB499_500.out);(try have:=NB500_499.out);have hcz18_0:=cells6 BK499.out;have hcz19_0:=cells6 BK500.out
    go_upto_if 25 with (first|((with_reducible refine gate_callee (f:=46) rfl ?_);refine goesL_ (some 24) rfl rfl Try.func46 (by kernel_rfl) rfl #[.agg #[I L a0_3,I L a0_4,I L a0_5],.agg #[I L a1_3,I L a1_4,I L a1_5]] rfl Z17 ?_;(with_reducible refine (laws_eqVec.calls a0_3 a0_4 a0_5 a1_3 a1_4 a1_5 t501 _ A15.out).mono ?_);rintro e w20 ⟨rfl,hb⟩;refine ⟨_,rfl,?_⟩;have n_:=an_ (blk_below (pk_ BK499.out) hb)<|an_ (blk_below (pk_ BK500.out) hb)<|D (below_step (pB_ HB.out) hb);clear BK499 BK500 HB;obtain ⟨BK499,BK500,HB⟩:=n_;(try clear hb)))
    have H := HU16.out; clear HU16
    by_cases c21 : t501 = true
    ·subst c21
     rw [if_pos rfl] at H; obtain rfl := Option.some.inj H
     go_wp2
     go_ret; exact ⟨er_, pB_ HB.out⟩
    ·replace c21 := Bool.eq_false_iff.mpr c21
     subst c21; rw [if_neg (show ¬ (false = true) by decide)] at H; obtain rfl := Option.some.inj H
     go_wp2
     go_ret; exact ⟨er_, pB_ HB.out⟩
  ·rw [if_neg c10] at H
   have c10b0:(a0_1 == a1_1)=false:=beq_eq_false_iff_ne.mpr c10;have c10b1:(a0_1 != a1_1)=true:=bne_iff_ne.mpr c10;obtain rfl:=Option.some.inj H;(try have:=NB499_500.out);(try have:=NB500_499.out);have hcz23_0:=cells6 BK499.out;have hcz24_0:=cells6 BK500.out
   go_wp2
   go_ret; exact ⟨er_, pB_ HB.out⟩
 ·rw [if_neg c9] at H
  have c9b0:(a0_0 == a1_0)=false:=beq_eq_false_iff_ne.mpr c9;have c9b1:(a0_0 != a1_0)=true:=bne_iff_ne.mpr c9;refine rw_ c9b0 ?_;obtain rfl:=Option.some.inj H
  go_wp2
  go_ret; exact ⟨er_, pB_ HB.out⟩

end Go.Proofs.Ytjfknflhajeglaa.PFnExactTreeFlow
