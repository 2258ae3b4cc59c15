-- by a program of this session's, over the kit's words
import Derived.Test.YtoacddcbiceeeabPZFnCostAdds
import Derived.Test.YtoacddcbiceeeabPFnCostAddsx0
import Derived.Test.YtoacddcbiceeeabPFnCostAddsx5
import Derived.Test.YtoacddcbiceeeabPFnCostAddsx6
namespace Go.Proofs.Ytoacddcbiceeeab.PFnCostAdds
open Go.RowKit Go.Proofs.YtoacddcbiceeeabW.PrintWords Go.Proofs.YtoacddcbiceeeabW.PrintLast Go.Proofs.YtoacddcbiceeeabW.PrintMore Go.Proofs.YtoacddcbiceeeabV Go.Proofs.Ytoacddcbiceeeab.ZFnCostAdds
open Go.Value renaming int → I, slice → Y
open Go.IntKind renaming i64 → L
open Aside0 renaming mk → D
open Option renaming bind_eq_some_iff → bs_
attribute [local go_sem] max2_int min2_int max_two min_two max_three min_three max_four min_four   -- for this text's walks alone
set_option linter.unusedVariables false
set_option linter.unusedSimpArgs false

/-! ### spec_Cut: function 42 -/
mutual
def spec_Cut.j0 : Nat → Int → Bool → Int → Int → Int → Int → Int → Option (Int × Int × Int × Int × Int)
 | 0, _, _, _, _, _, _, _ => none
 | k + 1,x1,x23,x232000,x232001,x232002,x232003,x232004=>if x23=true then (some (0,0,0,0,0)) else ((spec_AddrBytes.f x232000 x232001 x232002 x232003 x232004).bind fun t235=>(spec_Cut.l0 k t235 x1 x232000 x232001 x232002 x232003 x232004))
def spec_Cut.l0 : Nat → List Int → Int → Int → Int → Int → Int → Int → Option (Int × Int × Int × Int × Int)
 | 0, _, _, _, _, _, _, _ => none
 | k + 1,x5,x6,x232000,x232001,x232002,x232003,x232004=>(spec_l03Bits.f x232000 x232001 x232002 x232003 x232004).bind fun t238=>(if x6 < t238 then (spec_Cut.l1 k x5 x6 128 (Int.tmod x6 8) x232000 x232001 x232002 x232003 x232004) else ((spec_AddrOf.f k x5).bind fun bt239=>(some (bt239.1,bt239.2.1,bt239.2.2.1,bt239.2.2.2.1,bt239.2.2.2.2.1))))
def spec_Cut.l1 : Nat → List Int → Int → Int → Int → Int → Int → Int → Int → Int → Option (Int × Int × Int × Int × Int)
 | 0, _, _, _, _, _, _, _, _, _ => none
 | k + 1,x5,x6,x7,x8,x232000,x232001,x232002,x232003,x232004=>if x8 > 0 then (spec_Cut.l1 k x5 x6 (wrap64 (Int.tdiv x7 2)) (wrap64 (x8 - 1)) x232000 x232001 x232002 x232003 x232004) else (if 0≤(wrap64 (Int.tdiv x6 8)) then (if (wrap64 (Int.tdiv x6 8)) < (x5.length:Int) then (if x7=0 then (none) else (if (Int.tmod (wrap64 (Int.tdiv (wrap64 (rd x5 (wrap64 (Int.tdiv x6 8)))) x7)) 2)=1 then (spec_Cut.l0 k (x5.set ((wrap64 (Int.tdiv x6 8)):Int).toNat (((rd x5 (wrap64 (Int.tdiv x6 8))) - ((x7) % 256)) % 256)) (wrap64 (x6 + 1)) x232000 x232001 x232002 x232003 x232004) else (spec_Cut.l0 k x5 (wrap64 (x6 + 1)) x232000 x232001 x232002 x232003 x232004))) else (none)) else (none))
end
def spec_Cut.f (k : Nat) (a0_0 a0_1 a0_2 a0_3 a0_4 a1 : Int) : Option (Int × Int × Int × Int × Int) := (spec_AddrOk.f a0_0 a0_1 a0_2 a0_3 a0_4).bind fun t233 => (if t233 = true then (if a1 < 0 then (spec_Cut.j0 k a1 true a0_0 a0_1 a0_2 a0_3 a0_4) else ((spec_l03Bits.f a0_0 a0_1 a0_2 a0_3 a0_4).bind fun t234 => (spec_Cut.j0 k a1 (decide (a1 > t234)) a0_0 a0_1 a0_2 a0_3 a0_4))) else (spec_Cut.j0 k a1 true a0_0 a0_1 a0_2 a0_3 a0_4))
set_option maxHeartbeats 8000000 in
set_option maxRecDepth 100000 in
theorem spec_Cut.calls (k : Nat) (a0_0 a0_1 a0_2 a0_3 a0_4 a1 r1 r2 r3 r4 r5 : Int) (w : World) (h : spec_Cut.f k a0_0 a0_1 a0_2 a0_3 a0_4 a1 = some (r1, r2, r3, r4, r5)) :
  Calls Try.prog 42 #[.agg #[I L a0_0,I L a0_1,I L a0_2,I L a0_3,I L a0_4],I L a1] w fun e w'=>e=.returned (.agg #[I L r1,I L r2,I L r3,I L r4,I L r5])∧Below w.heap.size w w':=by
 have hu32 := Try.underlying32
 have HB := D (Below.refl w.heap.size w)
 have H:((spec_AddrOk.f a0_0 a0_1 a0_2 a0_3 a0_4).bind fun Uc=>(if Uc=true then (if a1 < 0 then (spec_Cut.j0 k a1 true a0_0 a0_1 a0_2 a0_3 a0_4) else ((spec_l03Bits.f a0_0 a0_1 a0_2 a0_3 a0_4).bind fun Jc=>(spec_Cut.j0 k a1 (decide (a1 > Jc)) a0_0 a0_1 a0_2 a0_3 a0_4))) else (spec_Cut.j0 k a1 true a0_0 a0_1 a0_2 a0_3 a0_4)))=some (r1,r2,r3,r4,r5):=h
 clear h
 have HC3 := D H
 clear H
 go_enter Try.func42, Try.ntmps42
 go_upto_region 1 with (first|((with_reducible refine gate_dst (N:=2) rfl ?_);refine bx_ (N:=2) (cs:=#[I L a0_0,I L a0_1,I L a0_2,I L a0_3,I L a0_4]) (t:=32) ?_;intro Ua hg w4 hbox hb;have n_:=an_ (below_step (pB_ HB.out) hb)<|an_ (hbox)<|an_ (bg_ hg (pB_ HB.out):w.heap.size≤Ua)<|D (bg_ hg (pB_ HB.out):w.heap.size≤Ua);clear HB;obtain ⟨HB,Ja,Xr,Js⟩:=n_;clear hb hbox hg)|((with_reducible refine gate_dst (N:=4) rfl ?_);refine bx_ (N:=4) (cs:=#[I L 0,I L 0,I L 0,I L 0,I L 0]) (t:=32) ?_;intro Oa hg w5 hbox hb;have n_:=an_ (blk_below (pk_ Ja.out) hb)<|an_ (below_step (pB_ HB.out) hb)<|an_ (hbox)<|an_ (bg_ hg (pB_ HB.out):w.heap.size≤Oa)<|an_ (bg_ hg (pB_ HB.out):w.heap.size≤Oa)<|an_ (nl_ hg (pk_ Ja.out):Ua≠Oa)<|D (by rw [hg];exact Nat.ne_of_gt (blk_lt (pk_ Ja.out)):Oa≠Ua);clear Ja HB;obtain ⟨Ja,HB,Ka,Ks,Ms,Kb,Mb⟩:=n_;clear hb hbox hg))
 (try simp only [Act.put, List.setIfInBounds_toArray, List.set_cons_zero, List.set_cons_succ])
 go_cut [23] (fun v23 wc=>∃ (kq:Nat) (Kc:Bool),v23=.bool Kc∧Aside0 (spec_Cut.j0 kq a1 Kc a0_0 a0_1 a0_2 a0_3 a0_4=some (r1,r2,r3,r4,r5))∧Aside0 (kq≤k)∧Aside0 (wc.heap[Ua]?=some (.cells #[I L a0_0,I L a0_1,I L a0_2,I L a0_3,I L a0_4] 32 (0,0)))∧Aside0 (wc.heap[Oa]?=some (.cells #[I L 0,I L 0,I L 0,I L 0,I L 0] 32 (0,0)))∧Aside0 (Below w.heap.size w wc))
 case first =>
  have H := HC3.out; clear HC3; obtain ⟨Uc, A60, H⟩ := bs_.mp H; (try dsimp only at H); have A6 := D A60; clear A60
  by_cases c7 : Uc = true
  ·subst c7
   rw [if_pos rfl] at H
   by_cases c8 : a1 < 0
   ·rw [if_pos c8] at H
    have c8b0:decide (a1 < 0)=true:=decide_eq_true c8;clear c8;refine rw_ c8b0 ?_;have H':=D H;clear H;(try have:=Kb.out);(try have:=Mb.out);have Xc:=cells5 Ja.out
    go_wp2_with (first|((with_reducible refine gate_callee (f:=56) rfl ?_);refine goesL_ (some 12) rfl rfl Try.func56 (by kernel_rfl) rfl #[.agg #[I L a0_0,I L a0_1,I L a0_2,I L a0_3,I L a0_4]] rfl Z15 ?_;(with_reducible refine (spec_AddrOk.calls a0_0 a0_1 a0_2 a0_3 a0_4 true _ A6.out).mono ?_);rintro e w11 ⟨rfl,hb⟩;refine ⟨_,rfl,?_⟩;have n_:=an_ (blk_below (pk_ Ja.out) hb)<|an_ (blk_below (pk_ Ka.out) hb)<|D (below_step (pB_ HB.out) hb);clear Ja Ka HB;obtain ⟨Ja,Ka,HB⟩:=n_;(try clear hb)))
    go_meet
    case rel => exact ⟨_, (true), Z22, H', ⟨by first | omega | exact Nat.le_refl _⟩, ⟨pk_ Ja.out⟩, ⟨pk_ Ka.out⟩, ⟨pB_ HB.out⟩⟩
   ·rw [if_neg c8] at H
    have c8b0:decide (a1 < 0)=false:=decide_eq_false c8;clear c8;refine rw_ c8b0 ?_;obtain ⟨Jc,A120,H⟩:=bs_.mp H;(try dsimp only at H);have A12:=D A120;clear A120;have H':=D H;clear H;(try have:=Kb.out);(try have:=Mb.out);have Ue:=cells5 Ja.out
    go_wp2_with (first|((with_reducible refine gate_callee (f:=56) rfl ?_);refine goesL_ (some 12) rfl rfl Try.func56 (by kernel_rfl) rfl #[.agg #[I L a0_0,I L a0_1,I L a0_2,I L a0_3,I L a0_4]] rfl Z15 ?_;(with_reducible refine (spec_AddrOk.calls a0_0 a0_1 a0_2 a0_3 a0_4 true _ A6.out).mono ?_);rintro e w15 ⟨rfl,hb⟩;refine ⟨_,rfl,?_⟩;have n_:=an_ (blk_below (pk_ Ja.out) hb)<|an_ (blk_below (pk_ Ka.out) hb)<|D (below_step (pB_ HB.out) hb);clear Ja Ka HB;obtain ⟨Ja,Ka,HB⟩:=n_;(try clear hb);have Mg:=cells5 Ja.out)|(go_at_call 55;(with_reducible refine (spec_l03Bits.calls a0_0 a0_1 a0_2 a0_3 a0_4 Jc _ A12.out).mono ?_);rintro e w17 ⟨rfl,hb⟩;have n_:=an_ (blk_below (pk_ Ja.out) hb)<|an_ (blk_below (pk_ Ka.out) hb)<|D (below_step (pB_ HB.out) hb);clear Ja Ka HB;obtain ⟨Ja,Ka,HB⟩:=n_;(try clear hb)))
    go_meet
    case rel => exact ⟨_, (decide (a1 > Jc)), Z22, H', ⟨by first | omega | exact Nat.le_refl _⟩, ⟨pk_ Ja.out⟩, ⟨pk_ Ka.out⟩, ⟨pB_ HB.out⟩⟩
  ·replace c7 := Bool.eq_false_iff.mpr c7
   subst c7;rw [if_neg (show ¬ (false=true) by decide)] at H;have H':=D H;clear H;(try have:=Kb.out);(try have:=Mb.out);have Ji:=cells5 Ja.out
   go_wp2_with (first|((with_reducible refine gate_callee (f:=56) rfl ?_);refine goesL_ (some 12) rfl rfl Try.func56 (by kernel_rfl) rfl #[.agg #[I L a0_0,I L a0_1,I L a0_2,I L a0_3,I L a0_4]] rfl Z15 ?_;(with_reducible refine (spec_AddrOk.calls a0_0 a0_1 a0_2 a0_3 a0_4 false _ A6.out).mono ?_);rintro e w20 ⟨rfl,hb⟩;refine ⟨_,rfl,?_⟩;have n_:=an_ (blk_below (pk_ Ja.out) hb)<|an_ (blk_below (pk_ Ka.out) hb)<|D (below_step (pB_ HB.out) hb);clear Ja Ka HB;obtain ⟨Ja,Ka,HB⟩:=n_;(try clear hb)))
   go_meet
   case rel => exact ⟨_, (true), Z22, H', ⟨by first | omega | exact Nat.le_refl _⟩, ⟨pk_ Ja.out⟩, ⟨pk_ Ka.out⟩, ⟨pB_ HB.out⟩⟩
 case rest =>
  clear HC3
  (try clear c1);(try clear p2);(try clear c4);(try clear c5);(try clear c7);(try clear c8);(try clear c8b0);(try clear c9);(try clear c13);(try clear c18);(try clear Xc);(try clear Ue);(try clear Mg);(try clear Ji)
  obtain ⟨kq, Kc, rfl, HA, HJ2, Ja, Ka, HB⟩ := hcut
  cases kq with
  | zero => exact absurd HA.out (by simp [spec_Cut.j0])
  | succ kj2 =>
   have H := HA.out; clear HA; simp only [spec_Cut.j0] at H
   by_cases c21 : Kc = true
   ·subst c21
    rw [if_pos rfl] at H;simp only [Option.some.injEq,Prod.mk.injEq] at H;obtain ⟨rfl,rfl,rfl,rfl,rfl⟩:=H;(try have:=Mb.out);(try have:=Kb.out);have Xj:=cells5 Ka.out
    go_wp2
    refine bodyPost_ret (results_cell_row rfl _ _ Oa 32 #[I L 0,I L 0,I L 0,I L 0,I L 0] (0,0) _ rfl Z4 Try.underlying32 rfl (by kernel_rfl)) rfl ?_;exact ⟨er_,pB_ HB.out⟩
   ·replace c21 := Bool.eq_false_iff.mpr c21
    subst c21;rw [if_neg (show ¬ (false=true) by decide)] at H;obtain ⟨Om,A240,H⟩:=bs_.mp H;(try dsimp only at H);have A24:=D A240;clear A240;have H':=D H;clear H;(try have:=Kb.out);(try have:=Mb.out);have Um:=cells5 Ja.out
    go_wp2_with (first|((with_reducible refine gate_callee (f:=57) rfl ?_);refine goesL_ (some 26) rfl rfl Try.func57 (by kernel_rfl) rfl #[.agg #[I L a0_0,I L a0_1,I L a0_2,I L a0_3,I L a0_4]] rfl Z15 ?_;(with_reducible refine (spec_AddrBytes.calls a0_0 a0_1 a0_2 a0_3 a0_4 Om _ A24.out).mono ?_);rintro e w27 ⟨Mo,rfl,ho0,hb⟩;refine ⟨_,rfl,?_⟩;have n_:=an_ (Kd.R_lower ho0 (below_size (pB_ HB.out)))<|an_ (blk_below (pk_ Ja.out) hb)<|an_ (blk_below (pk_ Ka.out) hb)<|D (below_step (pB_ HB.out) hb);clear Ja Ka HB;obtain ⟨Xo,Ja,Ka,HB⟩:=n_;(try clear hb);(try clear ho0)))
    go_loopg [6] kj2 (fun kq v6 w'=>∃ (x5_2:List Int) (x6_2:Int),v6=I L x6_2∧Aside0 (spec_Cut.l0 kq x5_2 x6_2 a0_0 a0_1 a0_2 a0_3 a0_4=some (r1,r2,r3,r4,r5))∧Aside0 (kq≤kj2)∧Aside0 (Kd.R (Kd.int .u8) 5 w' w.heap.size (fun _=>True) Mo x5_2)∧Aside0 (w'.heap[Ua]?=some (.cells #[I L a0_0,I L a0_1,I L a0_2,I L a0_3,I L a0_4] 32 (0,0)))∧Aside0 (w'.heap[Oa]?=some (.cells #[I L 0,I L 0,I L 0,I L 0,I L 0] 32 (0,0)))∧Aside0 (Below w.heap.size w w'))
    case atStart => exact ⟨(Om), (a1), Z22, H', ⟨Nat.le_refl _⟩, ⟨pR_ Xo.out⟩, ⟨pk_ Ja.out⟩, ⟨pk_ Ka.out⟩, ⟨pB_ HB.out⟩⟩
    case round =>
     clear H'
     (try clear c1);(try clear c2);(try clear p2);(try clear c4);(try clear c5);(try clear c7);(try clear c8);(try clear c8b0);(try clear c9);(try clear c13);(try clear c18);(try clear c21);(try clear c22);(try clear c25);(try clear Xc);(try clear Ue);(try clear Mg);(try clear Ji);(try clear Xj);(try clear Um);(try clear p2)
     obtain ⟨x5_2, x6_2, rfl, HA, HK2, Ma, Ja, Ka, HB⟩ := hrel
     cases gk with
     | zero => exact absurd HA.out (by simp [spec_Cut.l0])
     | succ k2 =>
      have H:=HA.out;clear HA;simp only [spec_Cut.l0] at H;obtain ⟨Mc,A280,H⟩:=bs_.mp H;(try dsimp only at H);have A28:=D A280;clear A280;have HU29:=D H;clear H;(try have:=Kb.out);(try have:=Mb.out);have Jp:=cells5 Ja.out
      go_upto_if 31 with (first|((with_reducible refine gate_callee (f:=55) rfl ?_);refine goesL_ (some 30) rfl rfl Try.func55 (by kernel_rfl) rfl #[.agg #[I L a0_0,I L a0_1,I L a0_2,I L a0_3,I L a0_4]] rfl Z15 ?_;(with_reducible refine (spec_l03Bits.calls a0_0 a0_1 a0_2 a0_3 a0_4 Mc _ A28.out).mono ?_);rintro e w32 ⟨rfl,hb⟩;refine ⟨_,rfl,?_⟩;have n_:=an_ (Kd.R_below (pR_ Ma.out) hb)<|an_ (blk_below (pk_ Ja.out) hb)<|an_ (blk_below (pk_ Ka.out) hb)<|D (below_step (pB_ HB.out) hb);clear Ma Ja Ka HB;obtain ⟨Ma,Ja,Ka,HB⟩:=n_;(try clear hb)))
      have H := HU29.out; clear HU29
      by_cases c33 : x6_2 < Mc
      ·rw [if_pos c33] at H
       have c33b0:decide (x6_2 < Mc)=true:=decide_eq_true c33;clear c33;refine rw_ c33b0 ?_;have H':=D H;clear H
       go_wp2
       go_loopg [7,8] k2 (fun kq v7 v8 w'=>∃ (x7_3:Int) (x8_3:Int),v7=I L x7_3∧v8=I L x8_3∧Aside0 (spec_Cut.l1 kq x5_2 x6_2 x7_3 x8_3 a0_0 a0_1 a0_2 a0_3 a0_4=some (r1,r2,r3,r4,r5))∧Aside0 (kq≤k2)∧Aside0 (Kd.R (Kd.int .u8) 5 w' w.heap.size (fun _=>True) Mo x5_2)∧Aside0 (w'.heap[Ua]?=some (.cells #[I L a0_0,I L a0_1,I L a0_2,I L a0_3,I L a0_4] 32 (0,0)))∧Aside0 (w'.heap[Oa]?=some (.cells #[I L 0,I L 0,I L 0,I L 0,I L 0] 32 (0,0)))∧Aside0 (Below w.heap.size w w'))
       case atStart => exact ⟨(128), (Int.tmod x6_2 8), Z22, Z22, H', ⟨Nat.le_refl _⟩, ⟨pR_ Ma.out⟩, ⟨pk_ Ja.out⟩, ⟨pk_ Ka.out⟩, ⟨pB_ HB.out⟩⟩
       case round =>
        clear H'
        (try clear c1);(try clear c2);(try clear p2);(try clear c3);(try clear c4);(try clear c5);(try clear c7);(try clear c8);(try clear c8b0);(try clear c9);(try clear c13);(try clear c18);(try clear c21);(try clear c22);(try clear c25);(try clear c30);(try clear c33);(try clear c33b0);(try clear Xc);(try clear Ue);(try clear Mg);(try clear Ji);(try clear Xj);(try clear Um);(try clear Jp);(try clear p2)
        obtain ⟨x7_3, x8_3, rfl, rfl, HA, HK3, Ma, Ja, Ka, HB⟩ := hrel
        cases gk with
        | zero => exact absurd HA.out (by simp [spec_Cut.l1])
        | succ k3 =>
         have H := HA.out; clear HA; simp only [spec_Cut.l1] at H
         by_cases c34 : x8_3 > 0
         ·rw [if_pos c34] at H
          have c34b0 : decide (0 < x8_3) = true := decide_eq_true c34; clear c34; have H' := D H; clear H
          go_wp2
          go_roundg k3
          case measure => have := HJ2.out; have := HK2.out; have := HK3.out; omega
          case rel=>exact ⟨(wrap64 (Int.tdiv x7_3 2)),(wrap64 (x8_3 - 1)),Z22,Z22,H',⟨by have:=HJ2.out;have:=HK2.out;have:=HK3.out;omega⟩,⟨pR_ Ma.out⟩,⟨pk_ Ja.out⟩,⟨pk_ Ka.out⟩,⟨pB_ HB.out⟩⟩
         ·rw [if_neg c34] at H
          have c34b0 : decide (0 < x8_3) = false := decide_eq_false c34; clear c34; obtain ⟨ji35, hji35⟩ : ∃ j_ : Int, (wrap64 (Int.tdiv x6_2 8)) = j_ := ⟨_, rfl⟩
          replace H:(if 0≤(ji35) then (if (ji35) < (x5_2.length:Int) then (if x7_3=0 then (none) else (if (Int.tmod (wrap64 (Int.tdiv (wrap64 (rd x5_2 (ji35))) x7_3)) 2)=1 then (spec_Cut.l0 k3 (x5_2.set ((ji35):Int).toNat (((rd x5_2 (ji35)) - ((x7_3) % 256)) % 256)) (wrap64 (x6_2 + 1)) a0_0 a0_1 a0_2 a0_3 a0_4) else (spec_Cut.l0 k3 x5_2 (wrap64 (x6_2 + 1)) a0_0 a0_1 a0_2 a0_3 a0_4))) else (none)) else (none))=some (r1,r2,r3,r4,r5):=by first|(rw [hji35] at H;exact H)|(simp only [hji35] at H ⊢;exact H)
          have hji35w : (IntKind.i64.wrap (Int.tdiv x6_2 8)) = ji35 := (i64_w _).trans hji35
          by_cases c36 : 0 ≤ (ji35)
          ·rw [if_pos c36] at H
           have c36b0 : decide (0 ≤ (ji35)) = true := decide_eq_true c36; clear c36
           by_cases c37 : (ji35) < (x5_2.length : Int)
           ·rw [if_pos c37] at H
            have c37b0 : decide ((ji35) < (x5_2.length : Int)) = true := decide_eq_true c37; clear c37
            by_cases c38 : x7_3 = 0
            ·rw [if_pos c38] at H
             exact absurd H (by simp)
            ·rw [if_neg c38] at H
             have c38b0:(x7_3 == 0)=false:=beq_eq_false_iff_ne.mpr c38;have c38b1:(x7_3 != 0)=true:=bne_iff_ne.mpr c38;have HU39:=D H;clear H;obtain ⟨Os,Uq,eo40⟩:=Kd.R_slice Ma.out;subst eo40;have p246:0≤((ji35):Int):=od_ Z21;have q246:(ji35) < (x5_2.length:Int):=od_ Z21;obtain ⟨ad246,e246,hx246_0⟩:=Kd.at_int (Kd.R_reads' Ma.out).2.2 (ji35) p246 q246;cases e246;replace p246:=eq_true p246;replace q246:=eq_true q246
             go_upto_if 51 with (fail)
             have H := HU39.out; clear HU39
             by_cases c41 : (Int.tmod (wrap64 (Int.tdiv (wrap64 (rd x5_2 (ji35))) x7_3)) 2) = 1
             ·rw [if_pos c41] at H
              have c41b0:((Int.tmod (wrap64 (Int.tdiv (wrap64 (rd x5_2 (ji35))) x7_3)) 2) == 1)=true:=beq_iff_eq.mpr c41;have c41b1:((Int.tmod (wrap64 (Int.tdiv (wrap64 (rd x5_2 (ji35))) x7_3)) 2) != 1)=false:=bne_eq_false_iff_eq.mpr c41;clear c41;refine rw_ c41b0 ?_;obtain ⟨y248,hy248⟩:∃ y_:List Int,y_=(x5_2.set ((ji35):Int).toNat (((rd x5_2 (ji35)) - ((x7_3) % 256)) % 256)):=⟨_,rfl⟩
              replace H:(spec_Cut.l0 k3 y248 (wrap64 (x6_2 + 1)) a0_0 a0_1 a0_2 a0_3 a0_4)=some (r1,r2,r3,r4,r5):=by first|(rw [hy248];with_reducible exact H)|(have H2_:=(Option.bind_some _ _).symm.trans H;rw [hy248];with_reducible exact H2_)|(have H2_:=(Option.bind_some _ _).symm.trans H;with_reducible exact H2_)|with_reducible exact H|(rw [hy248];exact H)|exact H
              have Ny248:=D hy248;clear hy248;have H':=D H;clear H;have p247:0≤((ji35):Int):=od_ Z21;have q247:(ji35) < (x5_2.length:Int):=od_ Z21;obtain ⟨ad247,e247,hx247_0⟩:=Kd.at_int (Kd.R_reads' Ma.out).2.2 (ji35) p247 q247;obtain rfl:ad246=ad247:=(by injection e247);replace p247:=eq_true p247;replace q247:=eq_true q247;have p42:0≤((ji35):Int):=od_ Z21;have q42:((ji35):Int) < ((x5_2.length:Int):Int):=od_ Z21;obtain ⟨go42,Us,eo42,Oo,gl42,cl42,HG42⟩:=Kd.R_form Ma.out (by omega);(first|cases eo42|(injection eo42 with ea_ en_ ec_;(first|subst ea_|(injection ea_ with ea_;subst ea_));subst ec_;clear en_));have GB42:=D Oo;have GG42:=D HG42;clear Oo gl42 HG42;(first|simp only [add_plain] at hx246_0|skip);(first|simp only [add_plain] at hx247_0|skip);obtain ⟨hx42_0,hf42_0⟩:=Kd.R_celln 0 Ma.out ((ji35):Int) p42 q42;replace p42:=eq_true p42;replace q42:=eq_true q42;have HP43:=Kd.R_putg Ma.out ((ji35):Int) (((rd x5_2 (ji35)) - ((x7_3) % 256)) % 256)
              go_wp2_with (first|((with_reducible refine gate_store (t:=5) (p:=63) rfl ?_);refine store_event (t:=5) (p:=63) (v:=?vo_w44) (w1:=(wr.setCell ⟨go42,((ji35):Int).toNat,none⟩ (.int .u8 (((rd x5_2 (ji35)) - ((x7_3) % 256)) % 256)))) ?hg ?ho ?hn ?hr ?_;(case ho=>rfl);(case hg=>rfl);(case hn=>rfl);(case hr=>first|(go_simp;done)|(go_simp;rfl));intro w44 hw;have hg:wr.grownBy w44 (some go42):=(by rw [hw];exact HP43.2);have hp_:Kd.R (Kd.int .u8) 5 w44 w.heap.size (fun _=>True) (Y (some ⟨go42,0,none⟩) x5_2.length Uq) y248:=(by rw [hw,Ny248.out];exact HP43.1);clear HP43;have n_:=an_ (hp_)<|an_ (blk_grown (pk_ Ja.out) hg (Kd.R_ne Ma.out Ja.out (by decide)))<|an_ (blk_grown (pk_ Ka.out) hg (Kd.R_ne Ma.out Ka.out (by decide)))<|D (by rw [hw];exact below_set (HB.out) GB42.out:Below w.heap.size w w44);clear Ma Ja Ka HB;obtain ⟨Ma,Ja,Ka,HB⟩:=n_;clear hg hw hp_))
              go_roundg k3
              case measure => have := HJ2.out; have := HK2.out; have := HK3.out; omega
              case rel => exact ⟨(y248), (wrap64 (x6_2 + 1)), Z22, H', ⟨by have := HJ2.out; have := HK2.out; have := HK3.out; omega⟩, ⟨pR_ Ma.out⟩, ⟨pk_ Ja.out⟩, ⟨pk_ Ka.out⟩, ⟨pB_ HB.out⟩⟩
             ·rw [if_neg c41] at H
              have c41b0:((Int.tmod (wrap64 (Int.tdiv (wrap64 (rd x5_2 (ji35))) x7_3)) 2) == 1)=false:=beq_eq_false_iff_ne.mpr c41;have c41b1:((Int.tmod (wrap64 (Int.tdiv (wrap64 (rd x5_2 (ji35))) x7_3)) 2) != 1)=true:=bne_iff_ne.mpr c41;refine rw_ c41b0 ?_;have H':=D H;clear H
              go_wp2
              go_roundg k3
              case measure => have := HJ2.out; have := HK2.out; have := HK3.out; omega
              case rel => exact ⟨(x5_2), (wrap64 (x6_2 + 1)), Z22, H', ⟨by have := HJ2.out; have := HK2.out; have := HK3.out; omega⟩, ⟨pR_ Ma.out⟩, ⟨pk_ Ja.out⟩, ⟨pk_ Ka.out⟩, ⟨pB_ HB.out⟩⟩
           ·rw [if_neg c37] at H
            exact absurd H (by simp)
          ·rw [if_neg c36] at H
           exact absurd H (by simp)
      ·rw [if_neg c33] at H
       have c33b0:decide (x6_2 < Mc)=false:=decide_eq_false c33;clear c33;refine rw_ c33b0 ?_;obtain ⟨⟨Ob,Xb,Oc,Uj,Uo,Xq⟩,A450,H⟩:=bs_.mp H;(try dsimp only at H);have A45:=D A450;clear A450;simp only [Option.some.injEq,Prod.mk.injEq] at H;obtain ⟨rfl,rfl,rfl,rfl,rfl⟩:=H;obtain ⟨Jr,Kr,eo46⟩:=Kd.R_slice Ma.out;subst eo46
       go_wp2_with (first|((with_reducible refine gate_callee (f:=58) rfl ?_);refine goesL_ (some 66) rfl rfl Try.func58 (by kernel_rfl) rfl #[Y Jr x5_2.length Kr] rfl Z15 ?_;(with_reducible refine (spec_AddrOf.calls k2 _ _ x5_2 Ob Xb Oc Uj Uo Xq _ ?side1 ?side2 A45.out).mono ?_);(case side1=>exact pC_ ((Kd.R_reads' Ma.out).2.2));(case side2=>exact (Kd.R_reads' Ma.out).2.1);rintro e w47 ⟨rfl,hb⟩;refine ⟨_,rfl,?_⟩;have n_:=an_ (Kd.R_below (pR_ Ma.out) hb)<|an_ (blk_below (pk_ Ja.out) hb)<|an_ (blk_below (pk_ Ka.out) hb)<|D (below_step (pB_ HB.out) hb);clear Ma Ja Ka HB;obtain ⟨Ma,Ja,Ka,HB⟩:=n_;(try clear hb))|((with_reducible refine gate_dst (N:=9) rfl ?_);refine bx_ (N:=9) (cs:=#[I L 0,I L 0,I L 0,I L 0,I L 0]) (t:=32) ?_;intro Xa hg w48 hbox hb;have n_:=an_ (Kd.R_below (pR_ Ma.out) hb)<|an_ (blk_below (pk_ Ja.out) hb)<|an_ (blk_below (pk_ Ka.out) hb)<|an_ (below_step (pB_ HB.out) hb)<|an_ (hbox)<|an_ (bg_ hg (pB_ HB.out):w.heap.size≤Xa)<|an_ (bg_ hg (pB_ HB.out):w.heap.size≤Xa)<|an_ (nl_ hg (pk_ Ja.out):Ua≠Xa)<|an_ (ng_ hg (pk_ Ja.out):Xa≠Ua)<|an_ (nl_ hg (pk_ Ka.out):Oa≠Xa)<|D (by rw [hg];exact Nat.ne_of_gt (blk_lt (pk_ Ka.out)):Xa≠Oa);clear Ma Ja Ka HB;obtain ⟨Ma,Ja,Ka,HB,Jb,Xs,Ju,Mr,Or,Ub,Ur⟩:=n_;clear hb hbox hg;(try have:=Or.out);(try have:=Mr.out);(try have:=Ur.out);(try have:=Ub.out);have Ku:=cells5 Jb.out;(try have:=Mb.out);(try have:=Kb.out);have Xv:=cells5 Ka.out))
       refine bodyPost_ret (results_cell_row rfl _ _ Oa 32 #[I L Ob,I L Xb,I L Oc,I L Uj,I L Uo] (0,0) _ rfl (by exact pP_ Ka.out) Try.underlying32 rfl (by kernel_rfl)) rfl ?_;exact ⟨er_,pB_ HB.out⟩

end Go.Proofs.Ytoacddcbiceeeab.PFnCostAdds
