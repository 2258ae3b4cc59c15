-- by a program of this session's, over the kit's words
import Derived.Test.YtjhgkonacdimfaaPZFnTurnedKey
import Derived.Test.YtjhgkonacdimfaaPFnTurnedKeyx0
import Derived.Test.YtjhgkonacdimfaaPFnTurnedKeyx4
import Derived.Test.YtjhgkonacdimfaaPFnTurnedKeyx5
namespace Go.Proofs.Ytjhgkonacdimfaa.PFnTurnedKey
open Go.RowKit Go.Proofs.YtjhgkonacdimfaaW.PrintWords Go.Proofs.YtjhgkonacdimfaaW.PrintLast Go.Proofs.YtjhgkonacdimfaaW.PrintMore Go.Proofs.YtjhgkonacdimfaaV Go.Proofs.Ytjhgkonacdimfaa.ZFnTurnedKey
open Go.Value renaming int → I, slice → Y
open Go.IntKind renaming i64 → L
open Aside0 renaming mk → D
open Option renaming bind_eq_some_iff → bs_
attribute [local go_sem] max2_int min2_int max_two min_two max_three min_three max_four min_four   -- for this text's walks alone
set_option linter.unusedVariables false
set_option linter.unusedSimpArgs false

/-! ### spec_Cut: function 38 -/
mutual
def spec_Cut.j0 : Nat → Int → Bool → Int → Int → Int → Int → Int → Option (Int × Int × Int × Int × Int)
 | 0, _, _, _, _, _, _, _ => none
 | k + 1,x1,x23,x174000,x174001,x174002,x174003,x174004=>if x23=true then (some (0,0,0,0,0)) else ((spec_AddrBytes.f x174000 x174001 x174002 x174003 x174004).bind fun t177=>(spec_Cut.l0 k t177 x1 x174000 x174001 x174002 x174003 x174004))
def spec_Cut.l0 : Nat → List Int → Int → Int → Int → Int → Int → Int → Option (Int × Int × Int × Int × Int)
 | 0, _, _, _, _, _, _, _ => none
 | k + 1,x5,x6,x174000,x174001,x174002,x174003,x174004=>(spec_l03Bits.f x174000 x174001 x174002 x174003 x174004).bind fun t180=>(if x6 < t180 then (spec_Cut.l1 k x5 x6 128 (Int.tmod x6 8) x174000 x174001 x174002 x174003 x174004) else ((spec_AddrOf.f k x5).bind fun bt181=>(some (bt181.1,bt181.2.1,bt181.2.2.1,bt181.2.2.2.1,bt181.2.2.2.2.1))))
def spec_Cut.l1 : Nat → List Int → Int → Int → Int → Int → Int → Int → Int → Int → Option (Int × Int × Int × Int × Int)
 | 0, _, _, _, _, _, _, _, _, _ => none
 | k + 1,x5,x6,x7,x8,x174000,x174001,x174002,x174003,x174004=>if x8 > 0 then (spec_Cut.l1 k x5 x6 (wrap64 (Int.tdiv x7 2)) (wrap64 (x8 - 1)) x174000 x174001 x174002 x174003 x174004) else (if 0≤(wrap64 (Int.tdiv x6 8)) then (if (wrap64 (Int.tdiv x6 8)) < (x5.length:Int) then (if x7=0 then (none) else (if (Int.tmod (wrap64 (Int.tdiv (wrap64 (rd x5 (wrap64 (Int.tdiv x6 8)))) x7)) 2)=1 then (spec_Cut.l0 k (x5.set ((wrap64 (Int.tdiv x6 8)):Int).toNat (((rd x5 (wrap64 (Int.tdiv x6 8))) - ((x7) % 256)) % 256)) (wrap64 (x6 + 1)) x174000 x174001 x174002 x174003 x174004) else (spec_Cut.l0 k x5 (wrap64 (x6 + 1)) x174000 x174001 x174002 x174003 x174004))) else (none)) else (none))
end
def spec_Cut.f (k : Nat) (a0_0 a0_1 a0_2 a0_3 a0_4 a1 : Int) : Option (Int × Int × Int × Int × Int) := (spec_AddrOk.f a0_0 a0_1 a0_2 a0_3 a0_4).bind fun t175 => (if t175 = true then (if a1 < 0 then (spec_Cut.j0 k a1 true a0_0 a0_1 a0_2 a0_3 a0_4) else ((spec_l03Bits.f a0_0 a0_1 a0_2 a0_3 a0_4).bind fun t176 => (spec_Cut.j0 k a1 (decide (a1 > t176)) a0_0 a0_1 a0_2 a0_3 a0_4))) else (spec_Cut.j0 k a1 true a0_0 a0_1 a0_2 a0_3 a0_4))
set_option maxHeartbeats 8000000 in
set_option maxRecDepth 100000 in
theorem spec_Cut.calls (k : Nat) (a0_0 a0_1 a0_2 a0_3 a0_4 a1 r1 r2 r3 r4 r5 : Int) (w : World) (h : spec_Cut.f k a0_0 a0_1 a0_2 a0_3 a0_4 a1 = some (r1, r2, r3, r4, r5)) :
  Calls Try.prog 38 #[.agg #[I L a0_0,I L a0_1,I L a0_2,I L a0_3,I L a0_4],I L a1] w fun e w'=>e=.returned (.agg #[I L r1,I L r2,I L r3,I L r4,I L r5])∧Below w.heap.size w w':=by
 have hu25 := Try.underlying25
 have HB := D (Below.refl w.heap.size w)
 have H:((spec_AddrOk.f a0_0 a0_1 a0_2 a0_3 a0_4).bind fun Uc=>(if Uc=true then (if a1 < 0 then (spec_Cut.j0 k a1 true a0_0 a0_1 a0_2 a0_3 a0_4) else ((spec_l03Bits.f a0_0 a0_1 a0_2 a0_3 a0_4).bind fun Jc=>(spec_Cut.j0 k a1 (decide (a1 > Jc)) a0_0 a0_1 a0_2 a0_3 a0_4))) else (spec_Cut.j0 k a1 true a0_0 a0_1 a0_2 a0_3 a0_4)))=some (r1,r2,r3,r4,r5):=h
 clear h
 have HC3 := D H
 clear H
 go_enter Try.func38, Try.ntmps38
 go_upto_region 1 with (first|((with_reducible refine gate_dst (N:=2) rfl ?_);refine bx_ (N:=2) (cs:=#[I L a0_0,I L a0_1,I L a0_2,I L a0_3,I L a0_4]) (t:=25) ?_;intro Ua hg w4 hbox hb;have n_:=an_ (below_step (pB_ HB.out) hb)<|an_ (hbox)<|an_ (bg_ hg (pB_ HB.out):w.heap.size≤Ua)<|D (bg_ hg (pB_ HB.out):w.heap.size≤Ua);clear HB;obtain ⟨HB,Ja,Xr,Js⟩:=n_;clear hb hbox hg)|((with_reducible refine gate_dst (N:=4) rfl ?_);refine bx_ (N:=4) (cs:=#[I L 0,I L 0,I L 0,I L 0,I L 0]) (t:=25) ?_;intro Oa hg w5 hbox hb;have n_:=an_ (blk_below (pk_ Ja.out) hb)<|an_ (below_step (pB_ HB.out) hb)<|an_ (hbox)<|an_ (bg_ hg (pB_ HB.out):w.heap.size≤Oa)<|an_ (bg_ hg (pB_ HB.out):w.heap.size≤Oa)<|an_ (nl_ hg (pk_ Ja.out):Ua≠Oa)<|D (by rw [hg];exact Nat.ne_of_gt (blk_lt (pk_ Ja.out)):Oa≠Ua);clear Ja HB;obtain ⟨Ja,HB,Ka,Ks,Ms,Kb,Mb⟩:=n_;clear hb hbox hg))
 (try simp only [Act.put, List.setIfInBounds_toArray, List.set_cons_zero, List.set_cons_succ])
 go_cut [23] (fun v23 wc=>∃ (kq:Nat) (Kc:Bool),v23=.bool Kc∧Aside0 (spec_Cut.j0 kq a1 Kc a0_0 a0_1 a0_2 a0_3 a0_4=some (r1,r2,r3,r4,r5))∧Aside0 (kq≤k)∧Aside0 (wc.heap[Ua]?=some (.cells #[I L a0_0,I L a0_1,I L a0_2,I L a0_3,I L a0_4] 25 (0,0)))∧Aside0 (wc.heap[Oa]?=some (.cells #[I L 0,I L 0,I L 0,I L 0,I L 0] 25 (0,0)))∧Aside0 (Below w.heap.size w wc))
 case first =>
  have H := HC3.out; clear HC3; obtain ⟨Uc, A60, H⟩ := bs_.mp H; (try dsimp only at H); have A6 := D A60; clear A60
  by_cases c7 : Uc = true
  ·subst c7
   rw [if_pos rfl] at H
   by_cases c8 : a1 < 0
   ·rw [if_pos c8] at H
    have c8b0:decide (a1 < 0)=true:=decide_eq_true c8;clear c8;refine rw_ c8b0 ?_;have H':=D H;clear H;(try have:=Kb.out);(try have:=Mb.out);have Xc:=cells5 Ja.out
    go_wp2_with (first|((with_reducible refine gate_callee (f:=27) rfl ?_);refine goesL_ (some 12) rfl rfl Try.func27 (by kernel_rfl) rfl #[.agg #[I L a0_0,I L a0_1,I L a0_2,I L a0_3,I L a0_4]] rfl Z8 ?_;(with_reducible refine (spec_AddrOk.calls a0_0 a0_1 a0_2 a0_3 a0_4 true _ A6.out).mono ?_);rintro e w11 ⟨rfl,hb⟩;refine ⟨_,rfl,?_⟩;have n_:=an_ (blk_below (pk_ Ja.out) hb)<|an_ (blk_below (pk_ Ka.out) hb)<|D (below_step (pB_ HB.out) hb);clear Ja Ka HB;obtain ⟨Ja,Ka,HB⟩:=n_;(try clear hb)))
    go_meet
    case rel => exact ⟨_, (true), Z17, H', ⟨by first | omega | exact Nat.le_refl _⟩, ⟨pk_ Ja.out⟩, ⟨pk_ Ka.out⟩, ⟨pB_ HB.out⟩⟩
   ·rw [if_neg c8] at H
    have c8b0:decide (a1 < 0)=false:=decide_eq_false c8;clear c8;refine rw_ c8b0 ?_;obtain ⟨Jc,A120,H⟩:=bs_.mp H;(try dsimp only at H);have A12:=D A120;clear A120;have H':=D H;clear H;(try have:=Kb.out);(try have:=Mb.out);have Ue:=cells5 Ja.out
    go_wp2_with (first|((with_reducible refine gate_callee (f:=27) rfl ?_);refine goesL_ (some 12) rfl rfl Try.func27 (by kernel_rfl) rfl #[.agg #[I L a0_0,I L a0_1,I L a0_2,I L a0_3,I L a0_4]] rfl Z8 ?_;(with_reducible refine (spec_AddrOk.calls a0_0 a0_1 a0_2 a0_3 a0_4 true _ A6.out).mono ?_);rintro e w15 ⟨rfl,hb⟩;refine ⟨_,rfl,?_⟩;have n_:=an_ (blk_below (pk_ Ja.out) hb)<|an_ (blk_below (pk_ Ka.out) hb)<|D (below_step (pB_ HB.out) hb);clear Ja Ka HB;obtain ⟨Ja,Ka,HB⟩:=n_;(try clear hb);have Mg:=cells5 Ja.out)|(go_at_call 49;(with_reducible refine (spec_l03Bits.calls a0_0 a0_1 a0_2 a0_3 a0_4 Jc _ A12.out).mono ?_);rintro e w17 ⟨rfl,hb⟩;have n_:=an_ (blk_below (pk_ Ja.out) hb)<|an_ (blk_below (pk_ Ka.out) hb)<|D (below_step (pB_ HB.out) hb);clear Ja Ka HB;obtain ⟨Ja,Ka,HB⟩:=n_;(try clear hb)))
    go_meet
    case rel => exact ⟨_, (decide (a1 > Jc)), Z17, H', ⟨by first | omega | exact Nat.le_refl _⟩, ⟨pk_ Ja.out⟩, ⟨pk_ Ka.out⟩, ⟨pB_ HB.out⟩⟩
  ·replace c7 := Bool.eq_false_iff.mpr c7
   subst c7;rw [if_neg (show ¬ (false=true) by decide)] at H;have H':=D H;clear H;(try have:=Kb.out);(try have:=Mb.out);have Ji:=cells5 Ja.out
   go_wp2_with (first|((with_reducible refine gate_callee (f:=27) rfl ?_);refine goesL_ (some 12) rfl rfl Try.func27 (by kernel_rfl) rfl #[.agg #[I L a0_0,I L a0_1,I L a0_2,I L a0_3,I L a0_4]] rfl Z8 ?_;(with_reducible refine (spec_AddrOk.calls a0_0 a0_1 a0_2 a0_3 a0_4 false _ A6.out).mono ?_);rintro e w20 ⟨rfl,hb⟩;refine ⟨_,rfl,?_⟩;have n_:=an_ (blk_below (pk_ Ja.out) hb)<|an_ (blk_below (pk_ Ka.out) hb)<|D (below_step (pB_ HB.out) hb);clear Ja Ka HB;obtain ⟨Ja,Ka,HB⟩:=n_;(try clear hb)))
   go_meet
   case rel => exact ⟨_, (true), Z17, H', ⟨by first | omega | exact Nat.le_refl _⟩, ⟨pk_ Ja.out⟩, ⟨pk_ Ka.out⟩, ⟨pB_ HB.out⟩⟩
 case rest =>
  clear HC3
  (try clear c1);(try clear c2);(try clear p2);(try clear c3);(try clear c7);(try clear c8);(try clear c8b0);(try clear c9);(try clear c13);(try clear c18);(try clear Xc);(try clear Ue);(try clear Mg);(try clear Ji)
  obtain ⟨kq, Kc, rfl, HA, HJ2, Ja, Ka, HB⟩ := hcut
  cases kq with
  | zero => exact absurd HA.out (by simp [spec_Cut.j0])
  | succ kj2 =>
   have H := HA.out; clear HA; simp only [spec_Cut.j0] at H
   by_cases c21 : Kc = true
   ·subst c21
    rw [if_pos rfl] at H;simp only [Option.some.injEq,Prod.mk.injEq] at H;obtain ⟨rfl,rfl,rfl,rfl,rfl⟩:=H;(try have:=Mb.out);(try have:=Kb.out);have Xj:=cells5 Ka.out
    go_wp2
    refine bodyPost_ret (results_cell_row rfl _ _ Oa 25 #[I L 0,I L 0,I L 0,I L 0,I L 0] (0,0) _ rfl Z2 Try.underlying25 rfl (by kernel_rfl)) rfl ?_;exact ⟨er_,pB_ HB.out⟩
   ·replace c21 := Bool.eq_false_iff.mpr c21
    subst c21;rw [if_neg (show ¬ (false=true) by decide)] at H;obtain ⟨Om,A240,H⟩:=bs_.mp H;(try dsimp only at H);have A24:=D A240;clear A240;have H':=D H;clear H;(try have:=Kb.out);(try have:=Mb.out);have Um:=cells5 Ja.out
    go_wp2_with (first|((with_reducible refine gate_callee (f:=50) rfl ?_);refine goesL_ (some 26) rfl rfl Try.func50 (by kernel_rfl) rfl #[.agg #[I L a0_0,I L a0_1,I L a0_2,I L a0_3,I L a0_4]] rfl Z8 ?_;(with_reducible refine (spec_AddrBytes.calls a0_0 a0_1 a0_2 a0_3 a0_4 Om _ A24.out).mono ?_);rintro e w27 ⟨Mo,rfl,ho0,hb⟩;refine ⟨_,rfl,?_⟩;have n_:=an_ (Kd.R_lower ho0 (below_size (pB_ HB.out)))<|an_ (blk_below (pk_ Ja.out) hb)<|an_ (blk_below (pk_ Ka.out) hb)<|D (below_step (pB_ HB.out) hb);clear Ja Ka HB;obtain ⟨Xo,Ja,Ka,HB⟩:=n_;(try clear hb);(try clear ho0)))
    go_loopg [6] kj2 (fun kq v6 w'=>∃ (x5_2:List Int) (x6_2:Int),v6=I L x6_2∧Aside0 (spec_Cut.l0 kq x5_2 x6_2 a0_0 a0_1 a0_2 a0_3 a0_4=some (r1,r2,r3,r4,r5))∧Aside0 (kq≤kj2)∧Aside0 (Kd.R (Kd.int .u8) 5 w' w.heap.size (fun _=>True) Mo x5_2)∧Aside0 (w'.heap[Ua]?=some (.cells #[I L a0_0,I L a0_1,I L a0_2,I L a0_3,I L a0_4] 25 (0,0)))∧Aside0 (w'.heap[Oa]?=some (.cells #[I L 0,I L 0,I L 0,I L 0,I L 0] 25 (0,0)))∧Aside0 (Below w.heap.size w w'))
    case atStart => exact ⟨(Om), (a1), Z17, H', ⟨Nat.le_refl _⟩, ⟨pR_ Xo.out⟩, ⟨pk_ Ja.out⟩, ⟨pk_ Ka.out⟩, ⟨pB_ HB.out⟩⟩
    case round =>
     clear H'
     (try clear c1);(try clear c2);(try clear p2);(try clear c3);(try clear c5);(try clear c7);(try clear c8);(try clear c8b0);(try clear c9);(try clear c13);(try clear c18);(try clear c21);(try clear c22);(try clear c25);(try clear c27);(try clear Xc);(try clear Ue);(try clear Mg);(try clear Ji);(try clear Xj);(try clear Um);(try clear p2)
     obtain ⟨x5_2, x6_2, rfl, HA, HK2, Ma, Ja, Ka, HB⟩ := hrel
     cases gk with
     | zero => exact absurd HA.out (by simp [spec_Cut.l0])
     | succ k2 =>
      have H:=HA.out;clear HA;simp only [spec_Cut.l0] at H;obtain ⟨Mc,A280,H⟩:=bs_.mp H;(try dsimp only at H);have A28:=D A280;clear A280;have HU29:=D H;clear H;(try have:=Kb.out);(try have:=Mb.out);have Jp:=cells5 Ja.out
      go_upto_if 31 with (first|((with_reducible refine gate_callee (f:=49) rfl ?_);refine goesL_ (some 30) rfl rfl Try.func49 (by kernel_rfl) rfl #[.agg #[I L a0_0,I L a0_1,I L a0_2,I L a0_3,I L a0_4]] rfl Z8 ?_;(with_reducible refine (spec_l03Bits.calls a0_0 a0_1 a0_2 a0_3 a0_4 Mc _ A28.out).mono ?_);rintro e w32 ⟨rfl,hb⟩;refine ⟨_,rfl,?_⟩;have n_:=an_ (Kd.R_below (pR_ Ma.out) hb)<|an_ (blk_below (pk_ Ja.out) hb)<|an_ (blk_below (pk_ Ka.out) hb)<|D (below_step (pB_ HB.out) hb);clear Ma Ja Ka HB;obtain ⟨Ma,Ja,Ka,HB⟩:=n_;(try clear hb)))
      have H := HU29.out; clear HU29
      by_cases c33 : x6_2 < Mc
      ·rw [if_pos c33] at H
       have c33b0:decide (x6_2 < Mc)=true:=decide_eq_true c33;clear c33;refine rw_ c33b0 ?_;have H':=D H;clear H
       go_wp2
       go_loopg [7,8] k2 (fun kq v7 v8 w'=>∃ (x7_3:Int) (x8_3:Int),v7=I L x7_3∧v8=I L x8_3∧Aside0 (spec_Cut.l1 kq x5_2 x6_2 x7_3 x8_3 a0_0 a0_1 a0_2 a0_3 a0_4=some (r1,r2,r3,r4,r5))∧Aside0 (kq≤k2)∧Aside0 (Kd.R (Kd.int .u8) 5 w' w.heap.size (fun _=>True) Mo x5_2)∧Aside0 (w'.heap[Ua]?=some (.cells #[I L a0_0,I L a0_1,I L a0_2,I L a0_3,I L a0_4] 25 (0,0)))∧Aside0 (w'.heap[Oa]?=some (.cells #[I L 0,I L 0,I L 0,I L 0,I L 0] 25 (0,0)))∧Aside0 (Below w.heap.size w w'))
       case atStart => exact ⟨(128), (Int.tmod x6_2 8), Z17, Z17, H', ⟨Nat.le_refl _⟩, ⟨pR_ Ma.out⟩, ⟨pk_ Ja.out⟩, ⟨pk_ Ka.out⟩, ⟨pB_ HB.out⟩⟩
       case round =>
        clear H'
        (try clear c1);(try clear c2);(try clear p2);(try clear c3);(try clear c4);(try clear c5);(try clear c7);(try clear c8);(try clear c8b0);(try clear c9);(try clear c13);(try clear c18);(try clear c21);(try clear c22);(try clear c25);(try clear c27);(try clear c30);(try clear c33);(try clear c33b0);(try clear Xc);(try clear Ue);(try clear Mg);(try clear Ji);(try clear Xj);(try clear Um);(try clear Jp);(try clear p2)
        obtain ⟨x7_3, x8_3, rfl, rfl, HA, HK3, Ma, Ja, Ka, HB⟩ := hrel
        cases gk with
        | zero => exact absurd HA.out (by simp [spec_Cut.l1])
        | succ k3 =>
         have H := HA.out; clear HA; simp only [spec_Cut.l1] at H
         by_cases c34 : x8_3 > 0
         ·rw [if_pos c34] at H
          have c34b0 : decide (0 < x8_3) = true := decide_eq_true c34; clear c34; have H' := D H; clear H
          go_wp2
          go_roundg k3
          case measure => have := HJ2.out; have := HK2.out; have := HK3.out; omega
          case rel=>exact ⟨(wrap64 (Int.tdiv x7_3 2)),(wrap64 (x8_3 - 1)),Z17,Z17,H',⟨by have:=HJ2.out;have:=HK2.out;have:=HK3.out;omega⟩,⟨pR_ Ma.out⟩,⟨pk_ Ja.out⟩,⟨pk_ Ka.out⟩,⟨pB_ HB.out⟩⟩
         ·rw [if_neg c34] at H
          have c34b0 : decide (0 < x8_3) = false := decide_eq_false c34; clear c34; obtain ⟨ji35, hji35⟩ : ∃ j_ : Int, (wrap64 (Int.tdiv x6_2 8)) = j_ := ⟨_, rfl⟩
          replace H:(if 0≤(ji35) then (if (ji35) < (x5_2.length:Int) then (if x7_3=0 then (none) else (if (Int.tmod (wrap64 (Int.tdiv (wrap64 (rd x5_2 (ji35))) x7_3)) 2)=1 then (spec_Cut.l0 k3 (x5_2.set ((ji35):Int).toNat (((rd x5_2 (ji35)) - ((x7_3) % 256)) % 256)) (wrap64 (x6_2 + 1)) a0_0 a0_1 a0_2 a0_3 a0_4) else (spec_Cut.l0 k3 x5_2 (wrap64 (x6_2 + 1)) a0_0 a0_1 a0_2 a0_3 a0_4))) else (none)) else (none))=some (r1,r2,r3,r4,r5):=by first|(rw [hji35] at H;exact H)|(simp only [hji35] at H ⊢;exact H)
          have hji35w : (IntKind.i64.wrap (Int.tdiv x6_2 8)) = ji35 := (i64_w _).trans hji35
          by_cases c36 : 0 ≤ (ji35)
          ·rw [if_pos c36] at H
           have c36b0 : decide (0 ≤ (ji35)) = true := decide_eq_true c36; clear c36
           by_cases c37 : (ji35) < (x5_2.length : Int)
           ·rw [if_pos c37] at H
            have c37b0 : decide ((ji35) < (x5_2.length : Int)) = true := decide_eq_true c37; clear c37
            by_cases c38 : x7_3 = 0
            ·rw [if_pos c38] at H
             exact absurd H (by simp)
            ·rw [if_neg c38] at H
             have c38b0:(x7_3 == 0)=false:=beq_eq_false_iff_ne.mpr c38;have c38b1:(x7_3 != 0)=true:=bne_iff_ne.mpr c38;have HU39:=D H;clear H;obtain ⟨Os,Uq,eo40⟩:=Kd.R_slice Ma.out;subst eo40;have p188:0≤((ji35):Int):=od_ Z16;have q188:(ji35) < (x5_2.length:Int):=od_ Z16;obtain ⟨ad188,e188,hx188_0⟩:=Kd.at_int (Kd.R_reads' Ma.out).2.2 (ji35) p188 q188;cases e188;replace p188:=eq_true p188;replace q188:=eq_true q188
             go_upto_if 51 with (fail)
             have H := HU39.out; clear HU39
             by_cases c41 : (Int.tmod (wrap64 (Int.tdiv (wrap64 (rd x5_2 (ji35))) x7_3)) 2) = 1
             ·rw [if_pos c41] at H
              have c41b0:((Int.tmod (wrap64 (Int.tdiv (wrap64 (rd x5_2 (ji35))) x7_3)) 2) == 1)=true:=beq_iff_eq.mpr c41;have c41b1:((Int.tmod (wrap64 (Int.tdiv (wrap64 (rd x5_2 (ji35))) x7_3)) 2) != 1)=false:=bne_eq_false_iff_eq.mpr c41;clear c41;refine rw_ c41b0 ?_;obtain ⟨y190,hy190⟩:∃ y_:List Int,y_=(x5_2.set ((ji35):Int).toNat (((rd x5_2 (ji35)) - ((x7_3) % 256)) % 256)):=⟨_,rfl⟩
              replace H:(spec_Cut.l0 k3 y190 (wrap64 (x6_2 + 1)) a0_0 a0_1 a0_2 a0_3 a0_4)=some (r1,r2,r3,r4,r5):=by first|(rw [hy190];with_reducible exact H)|(have H2_:=(Option.bind_some _ _).symm.trans H;rw [hy190];with_reducible exact H2_)|(have H2_:=(Option.bind_some _ _).symm.trans H;with_reducible exact H2_)|with_reducible exact H|(rw [hy190];exact H)|exact H
              have Ny190:=D hy190;clear hy190;have H':=D H;clear H;have p189:0≤((ji35):Int):=od_ Z16;have q189:(ji35) < (x5_2.length:Int):=od_ Z16;obtain ⟨ad189,e189,hx189_0⟩:=Kd.at_int (Kd.R_reads' Ma.out).2.2 (ji35) p189 q189;obtain rfl:ad188=ad189:=(by injection e189);replace p189:=eq_true p189;replace q189:=eq_true q189;have p42:0≤((ji35):Int):=od_ Z16;have q42:((ji35):Int) < ((x5_2.length:Int):Int):=od_ Z16;obtain ⟨go42,Us,eo42,Oo,gl42,cl42,HG42⟩:=Kd.R_form Ma.out (by omega);(first|cases eo42|(injection eo42 with ea_ en_ ec_;(first|subst ea_|(injection ea_ with ea_;subst ea_));subst ec_;clear en_));have GB42:=D Oo;have GG42:=D HG42;clear Oo gl42 HG42;(first|simp only [add_plain] at hx188_0|skip);(first|simp only [add_plain] at hx189_0|skip);obtain ⟨hx42_0,hf42_0⟩:=Kd.R_celln 0 Ma.out ((ji35):Int) p42 q42;replace p42:=eq_true p42;replace q42:=eq_true q42;have HP43:=Kd.R_putg Ma.out ((ji35):Int) (((rd x5_2 (ji35)) - ((x7_3) % 256)) % 256)
              go_wp2_with (first|((with_reducible refine gate_store (t:=5) (p:=63) rfl ?_);refine store_event (t:=5) (p:=63) (v:=?vo_w44) (w1:=(wr.setCell ⟨go42,((ji35):Int).toNat,none⟩ (.int .u8 (((rd x5_2 (ji35)) - ((x7_3) % 256)) % 256)))) ?hg ?ho ?hn ?hr ?_;(case ho=>rfl);(case hg=>rfl);(case hn=>rfl);(case hr=>first|(go_simp;done)|(go_simp;rfl));intro w44 hw;have hg:wr.grownBy w44 (some go42):=(by rw [hw];exact HP43.2);have hp_:Kd.R (Kd.int .u8) 5 w44 w.heap.size (fun _=>True) (Y (some ⟨go42,0,none⟩) x5_2.length Uq) y190:=(by rw [hw,Ny190.out];exact HP43.1);clear HP43;have n_:=an_ (hp_)<|an_ (blk_grown (pk_ Ja.out) hg (Kd.R_ne Ma.out Ja.out (by decide)))<|an_ (blk_grown (pk_ Ka.out) hg (Kd.R_ne Ma.out Ka.out (by decide)))<|D (by rw [hw];exact below_set (HB.out) GB42.out:Below w.heap.size w w44);clear Ma Ja Ka HB;obtain ⟨Ma,Ja,Ka,HB⟩:=n_;clear hg hw hp_))
              go_roundg k3
              case measure => have := HJ2.out; have := HK2.out; have := HK3.out; omega
              case rel => exact ⟨(y190), (wrap64 (x6_2 + 1)), Z17, H', ⟨by have := HJ2.out; have := HK2.out; have := HK3.out; omega⟩, ⟨pR_ Ma.out⟩, ⟨pk_ Ja.out⟩, ⟨pk_ Ka.out⟩, ⟨pB_ HB.out⟩⟩
             ·rw [if_neg c41] at H
              have c41b0:((Int.tmod (wrap64 (Int.tdiv (wrap64 (rd x5_2 (ji35))) x7_3)) 2) == 1)=false:=beq_eq_false_iff_ne.mpr c41;have c41b1:((Int.tmod (wrap64 (Int.tdiv (wrap64 (rd x5_2 (ji35))) x7_3)) 2) != 1)=true:=bne_iff_ne.mpr c41;refine rw_ c41b0 ?_;have H':=D H;clear H
              go_wp2
              go_roundg k3
              case measure => have := HJ2.out; have := HK2.out; have := HK3.out; omega
              case rel => exact ⟨(x5_2), (wrap64 (x6_2 + 1)), Z17, H', ⟨by have := HJ2.out; have := HK2.out; have := HK3.out; omega⟩, ⟨pR_ Ma.out⟩, ⟨pk_ Ja.out⟩, ⟨pk_ Ka.out⟩, ⟨pB_ HB.out⟩⟩
           ·rw [if_neg c37] at H
            exact absurd H (by simp)
          ·rw [if_neg c36] at H
           exact absurd H (by simp)
      ·rw [if_neg c33] at H
       have c33b0:decide (x6_2 < Mc)=false:=decide_eq_false c33;clear c33;refine rw_ c33b0 ?_;obtain ⟨⟨Ob,Xb,Oc,Uj,Uo,Xq⟩,A450,H⟩:=bs_.mp H;(try dsimp only at H);have A45:=D A450;clear A450;simp only [Option.some.injEq,Prod.mk.injEq] at H;obtain ⟨rfl,rfl,rfl,rfl,rfl⟩:=H;obtain ⟨Jr,Kr,eo46⟩:=Kd.R_slice Ma.out;subst eo46
       go_wp2_with (first|((with_reducible refine gate_callee (f:=51) rfl ?_);refine goesL_ (some 66) rfl rfl Try.func51 (by kernel_rfl) rfl #[Y Jr x5_2.length Kr] rfl Z8 ?_;(with_reducible refine (spec_AddrOf.calls k2 _ _ x5_2 Ob Xb Oc Uj Uo Xq _ ?side1 ?side2 A45.out).mono ?_);(case side1=>exact pC_ ((Kd.R_reads' Ma.out).2.2));(case side2=>exact (Kd.R_reads' Ma.out).2.1);rintro e w47 ⟨rfl,hb⟩;refine ⟨_,rfl,?_⟩;have n_:=an_ (Kd.R_below (pR_ Ma.out) hb)<|an_ (blk_below (pk_ Ja.out) hb)<|an_ (blk_below (pk_ Ka.out) hb)<|D (below_step (pB_ HB.out) hb);clear Ma Ja Ka HB;obtain ⟨Ma,Ja,Ka,HB⟩:=n_;(try clear hb))|((with_reducible refine gate_dst (N:=9) rfl ?_);refine bx_ (N:=9) (cs:=#[I L 0,I L 0,I L 0,I L 0,I L 0]) (t:=25) ?_;intro Xa hg w48 hbox hb;have n_:=an_ (Kd.R_below (pR_ Ma.out) hb)<|an_ (blk_below (pk_ Ja.out) hb)<|an_ (blk_below (pk_ Ka.out) hb)<|an_ (below_step (pB_ HB.out) hb)<|an_ (hbox)<|an_ (bg_ hg (pB_ HB.out):w.heap.size≤Xa)<|an_ (bg_ hg (pB_ HB.out):w.heap.size≤Xa)<|an_ (nl_ hg (pk_ Ja.out):Ua≠Xa)<|an_ (ng_ hg (pk_ Ja.out):Xa≠Ua)<|an_ (nl_ hg (pk_ Ka.out):Oa≠Xa)<|D (by rw [hg];exact Nat.ne_of_gt (blk_lt (pk_ Ka.out)):Xa≠Oa);clear Ma Ja Ka HB;obtain ⟨Ma,Ja,Ka,HB,Jb,Xs,Ju,Mr,Or,Ub,Ur⟩:=n_;clear hb hbox hg;(try have:=Or.out);(try have:=Mr.out);(try have:=Ur.out);(try have:=Ub.out);have Ku:=cells5 Jb.out;(try have:=Mb.out);(try have:=Kb.out);have Xv:=cells5 Ka.out))
       refine bodyPost_ret (results_cell_row rfl _ _ Oa 25 #[I L Ob,I L Xb,I L Oc,I L Uj,I L Uo] (0,0) _ rfl (by exact pP_ Ka.out) Try.underlying25 rfl (by kernel_rfl)) rfl ?_;exact ⟨er_,pB_ HB.out⟩

/-! ### spec_l01Cur_wide: function 42 -/
def spec_l01Cur_wide.f (s0_0 : List Int) (s0_1 s0_2 a1 : Int) : Option (Int × Int × Int) := (spec_l01Cur_pick.f s0_0 s0_1 s0_2 256).bind fun bt191 => ((spec_l01Cur_pick.f s0_0 bt191.2.1 bt191.2.2 256).bind fun bt194 => ((spec_l01Cur_pick.f s0_0 bt194.2.1 bt194.2.2 256).bind fun bt197 => (if a1 = 0 then (none) else (some (Int.tmod (wrap64 ((wrap64 ((wrap64 (65536 * bt191.1)) + (wrap64 (256 * bt194.1)))) + bt197.1)) a1, bt197.2.1, bt197.2.2)))))
set_option maxHeartbeats 8000000 in
set_option maxRecDepth 100000 in
theorem spec_l01Cur_wide.calls (g : Nat) (s0_0 : List Int) (s0_1 s0_2 a1 r1 r2 r3 : Int) (w0 w : World) (hI : IsS47 w0 w g s0_0 s0_1 s0_2) (hB : Below w0.heap.size w0 w) (h : spec_l01Cur_wide.f s0_0 s0_1 s0_2 a1 = some (r1, r2, r3)) :
  Calls Try.prog 42 #[.pointer (some ⟨g, 0, none⟩), I L a1] w fun e w' => e = .returned (I L r1) ∧ IsS47 w0 w' g s0_0 r2 r3 ∧ Below w0.heap.size w0 w' ∧ KeepBut w w' g none := by
 have HI0 := D hI
 have HK := D (KeepBut.refl w g none)
 have HL := D hB.size
 clear hI
 have HW0 := D hB.size
 have HB := D hB
 clear hB
 have H:((spec_l01Cur_pick.f s0_0 s0_1 s0_2 256).bind fun bt191=>((spec_l01Cur_pick.f s0_0 bt191.2.1 bt191.2.2 256).bind fun bt194=>((spec_l01Cur_pick.f s0_0 bt194.2.1 bt194.2.2 256).bind fun bt197=>(if a1=0 then (none) else (some (Int.tmod (wrap64 ((wrap64 ((wrap64 (65536 * bt191.1)) + (wrap64 (256 * bt194.1)))) + bt197.1)) a1,bt197.2.1,bt197.2.2))))))=some (r1,r2,r3):=h
 clear h
 obtain ⟨⟨t191, t192, t193⟩, A30, H⟩ := bs_.mp H
 (try dsimp only at H)
 have A3 := D A30
 clear A30
 obtain ⟨⟨t194, t195, t196⟩, A40, H⟩ := bs_.mp H
 (try dsimp only at H)
 have A4 := D A40
 clear A40
 obtain ⟨⟨t197, t198, t199⟩, A50, H⟩ := bs_.mp H
 (try dsimp only at H)
 have A5 := D A50
 clear A50
 by_cases c6 : a1 = 0
 ·rw [if_pos c6] at H
  exact absurd H (by simp)
 ·rw [if_neg c6] at H
  have c6b0:(a1 == 0)=false:=beq_eq_false_iff_ne.mpr c6;have c6b1:(a1 != 0)=true:=bne_iff_ne.mpr c6;simp only [Option.some.injEq,Prod.mk.injEq] at H;obtain ⟨rfl,rfl,rfl⟩:=H;go_enter Try.func42,Try.ntmps42
  go_wp2_with (first|((with_reducible refine gate_callee (f:=22) rfl ?_);refine goesL_ (some 6) rfl rfl Try.func22 (by kernel_rfl) rfl #[.pointer (some ⟨g,0,none⟩),I L 256] rfl Z8 ?_;(with_reducible refine (spec_l01Cur_pick.calls g s0_0 s0_1 s0_2 256 t191 t192 t193 w0 _ ?side1 ?side2 A3.out).mono ?_);(case side1=>exact pS47_ HI0.out);(case side2=>exact pT47_ HB.out);rintro e w7 ⟨rfl,hi,hb,hk⟩;refine ⟨_,rfl,?_⟩;have n_:=an_ (KeepBut.trans (pK_ HK.out) hk (.inl rfl))<|an_ (hb)<|D (hi);clear HK HB HI0;obtain ⟨HK,HB,HI0⟩:=n_;(try clear hb);(try clear hk);(try clear hi))|((with_reducible refine gate_callee (f:=22) rfl ?_);refine goesL_ (some 9) rfl rfl Try.func22 (by kernel_rfl) rfl #[.pointer (some ⟨g,0,none⟩),I L 256] rfl Z8 ?_;(with_reducible refine (spec_l01Cur_pick.calls g s0_0 t192 t193 256 t194 t195 t196 w0 _ ?side1 ?side2 A4.out).mono ?_);(case side1=>exact pS47_ HI0.out);(case side2=>exact pT47_ HB.out);rintro e w8 ⟨rfl,hi,hb,hk⟩;refine ⟨_,rfl,?_⟩;have n_:=an_ (KeepBut.trans (pK_ HK.out) hk (.inl rfl))<|an_ (hb)<|D (hi);clear HK HB HI0;obtain ⟨HK,HB,HI0⟩:=n_;(try clear hb);(try clear hk);(try clear hi))|((with_reducible refine gate_callee (f:=22) rfl ?_);refine goesL_ (some 13) rfl rfl Try.func22 (by kernel_rfl) rfl #[.pointer (some ⟨g,0,none⟩),I L 256] rfl Z8 ?_;(with_reducible refine (spec_l01Cur_pick.calls g s0_0 t195 t196 256 t197 t198 t199 w0 _ ?side1 ?side2 A5.out).mono ?_);(case side1=>exact pS47_ HI0.out);(case side2=>exact pT47_ HB.out);rintro e w9 ⟨rfl,hi,hb,hk⟩;refine ⟨_,rfl,?_⟩;have n_:=an_ (KeepBut.trans (pK_ HK.out) hk (.inl rfl))<|an_ (hb)<|D (hi);clear HK HB HI0;obtain ⟨HK,HB,HI0⟩:=n_;(try clear hb);(try clear hk);(try clear hi)))
  go_ret; exact ⟨er_, pS47_ HI0.out, pT47_ HB.out, pK_ HK.out⟩

end Go.Proofs.Ytjhgkonacdimfaa.PFnTurnedKey
