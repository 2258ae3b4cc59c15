-- by a program of this session's, over the kit's words
import Derived.Test.YtjfknflhajeglabPZFnExactTreeTenant
import Derived.Test.YtjfknflhajeglabPFnExactTreeTenantx0
import Derived.Test.YtjfknflhajeglabPFnExactTreeTenantx10
namespace Go.Proofs.Ytjfknflhajeglab.PFnExactTreeTenant
open Go.RowKit Go.Proofs.YtjfknflhajeglabW.PrintWords Go.Proofs.YtjfknflhajeglabW.PrintLast Go.Proofs.YtjfknflhajeglabW.PrintMore Go.Proofs.YtjfknflhajeglabV Go.Proofs.Ytjfknflhajeglab.ZFnExactTreeTenant
open Go.Value renaming int → I, slice → Y
open Go.IntKind renaming i64 → L
open Aside0 renaming mk → D
open Option renaming bind_eq_some_iff → bs_
attribute [local go_sem] max2_int min2_int max_two min_two max_three min_three max_four min_four   -- for this text's walks alone
set_option linter.unusedVariables false
set_option linter.unusedSimpArgs false

/-! ### impl_Fair_pick: function 65 -/
def impl_Fair_pick.l0 : Nat → Int → List (S51) → Int → Int → Int → Int → Int → Int → List (S51) → Option (Int)
 | 0, _, _, _, _, _, _, _, _, _ => none
 | k + 1,x3,x7,x8,x9,x373000,x373001,x373002,x373003,x373004=>if x9 < x8 then (if 0≤x9 then (if x9 < (x7.length:Int) then (if (rd_T51 x7 x9).f2=true then (if x3 < 0 then (impl_Fair_pick.l0 k x9 x7 x8 (wrap64 (x9 + 1)) x373000 x373001 x373002 x373003 x373004) else ((impl_VecTop.f ((rd_T51 x7 x9).f3.f0) ((rd_T51 x7 x9).f3.f1) ((rd_T51 x7 x9).f3.f2)).bind fun t375=>(if 0≤x3 then (if x3 < (x373004.length:Int) then ((impl_VecTop.f ((rd_T51 x373004 x3).f3.f0) ((rd_T51 x373004 x3).f3.f1) ((rd_T51 x373004 x3).f3.f2)).bind fun t377=>(if t375 < t377 then (impl_Fair_pick.l0 k x9 x7 x8 (wrap64 (x9 + 1)) x373000 x373001 x373002 x373003 x373004) else (impl_Fair_pick.l0 k x3 x7 x8 (wrap64 (x9 + 1)) x373000 x373001 x373002 x373003 x373004))) else (none)) else (none)))) else (impl_Fair_pick.l0 k x3 x7 x8 (wrap64 (x9 + 1)) x373000 x373001 x373002 x373003 x373004)) else (none)) else (none)) else (some x3)
def impl_Fair_pick.f (k : Nat) (a0_0 a0_1 a0_2 a0_3 : Int) (l0_4 : List (S51)) : Option (Int) := impl_Fair_pick.l0 k (-1) l0_4 (l0_4.length : Int) 0 a0_0 a0_1 a0_2 a0_3 l0_4
def impl_Fair_pick.T5 : Bool × List (List Nat × List Nat) := (true, [([], []), ([0], [0]), ([1], [1]), ([2], [2]), ([3, 2], [2, 3]), ([4, 2, 2], [2, 4]), ([5], [5]), ([6, 5], [5, 6]), ([7, 5, 5], [5, 7]), ([5], [5]), ([9, 5], [5, 9]), ([5], [5]), ([10, 11, 5], [5, 10, 11]), ([12, 5], [5, 12]), ([13, 5], [5, 13]), ([14, 8, 5], [5, 14]), ([8, 15, 5], [5, 8, 15]), ([5, 16, 2], [2, 5, 16]), ([2, 17], [2, 17])])
def impl_Fair_pick.B5 : List Nat := [0, 1, 3, 7, 15, 31, 63, 127, 255, 63, 575, 63, 3647, 7743, 15935, 32767, 65535, 131071, 262143]
theorem impl_Fair_pick.tab5 : rtab .any (opsOf Try.f65 5) = impl_Fair_pick.T5 := by kernel_rfl
theorem impl_Fair_pick.bits5 : waitsOk impl_Fair_pick.T5.2 impl_Fair_pick.B5 = true := by kernel_rfl
set_option maxHeartbeats 8000000 in
set_option maxRecDepth 100000 in
theorem impl_Fair_pick.calls (k : Nat) (a0_0 a0_1 a0_2 a0_3 : Int) (A0_4 : Option Addr) (c0_4 : Nat) (l0_4 : List (S51)) (r : Int) (w : World) (hr0_4 : Kd.C k51 w A0_4 l0_4.length l0_4) (hc0_4 : l0_4.length ≤ c0_4) (h : impl_Fair_pick.f k a0_0 a0_1 a0_2 a0_3 l0_4 = some r) :
  Calls Try.prog 65 #[.agg #[I L a0_0, I L a0_1, I L a0_2, I L a0_3, Y A0_4 l0_4.length c0_4]] w fun e w' => e = .returned (I L r) ∧ Below w.heap.size w w' := by
 have hu34 := Try.underlying34
 have hu51 := Try.underlying51
 have hu31 := Try.underlying31
 have HR0_4 := D hr0_4
 have HC0_4 := D hc0_4
 clear hr0_4 hc0_4
 have HB := D (Below.refl w.heap.size w)
 have H : (impl_Fair_pick.l0 k (-1) l0_4 (l0_4.length : Int) 0 a0_0 a0_1 a0_2 a0_3 l0_4) = some r := h
 clear h
 have H' := D H
 clear H
 go_enter Try.func65, Try.ntmps65
 go_wp2_with (first|((with_reducible refine gate_dst (N:=1) rfl ?_);refine bx_ (N:=1) (cs:=#[I L a0_0,I L a0_1,I L a0_2,I L a0_3,Y A0_4 l0_4.length c0_4]) (t:=34) ?_;intro Ua hg w2 hbox hb;have n_:=an_ (below_step (pB_ HB.out) hb)<|an_ (hbox)<|an_ (bg_ hg (pB_ HB.out):w.heap.size≤Ua)<|D (bg_ hg (pB_ HB.out):w.heap.size≤Ua);clear HB;obtain ⟨HB,Ma,Ud,Xd⟩:=n_;clear hb hbox hg;have Ub:=cells5 Ma.out))
 go_loopg [3,9] k (fun kq v3 v9 w'=>∃ (x3_1:Int) (x9_1:Int),v3=I L x3_1∧v9=I L x9_1∧Aside0 (impl_Fair_pick.l0 kq x3_1 l0_4 (l0_4.length:Int) x9_1 a0_0 a0_1 a0_2 a0_3 l0_4=some r)∧Aside0 (kq≤k)∧Aside0 (w'.heap[Ua]?=some (.cells #[I L a0_0,I L a0_1,I L a0_2,I L a0_3,(Y A0_4 l0_4.length c0_4)] 34 (0,0)))∧Aside0 (Below w.heap.size w w'))
 case atStart => exact ⟨((-1)), (0), Z53, Z53, H', ⟨Nat.le_refl _⟩, ⟨pk_ Ma.out⟩, ⟨pB_ HB.out⟩⟩
 case round =>
  clear H'
  (try clear p2);(try clear Ub)
  obtain ⟨x3_1, x9_1, rfl, rfl, HA, HK1, Ma, HB⟩ := hrel
  cases gk with
  | zero => exact absurd HA.out (by simp [impl_Fair_pick.l0])
  | succ k1 =>
   have H := HA.out; clear HA; simp only [impl_Fair_pick.l0] at H
   by_cases c4 : x9_1 < (l0_4.length : Int)
   ·rw [if_pos c4] at H
    have c4b0 : decide (x9_1 < (l0_4.length : Int)) = true := decide_eq_true c4; clear c4
    by_cases c5 : 0 ≤ x9_1
    ·rw [if_pos c5] at H
     have c5b0 : decide (0 ≤ x9_1) = true := decide_eq_true c5; clear c5
     by_cases c6 : x9_1 < (l0_4.length : Int)
     ·rw [if_pos c6] at H
      have c6b0 : decide (x9_1 < (l0_4.length : Int)) = true := decide_eq_true c6; clear c6; obtain ⟨bq7, hbq7⟩ : ∃ b_ : Bool, b_ = ((rd_T51 l0_4 x9_1).f2) := ⟨_, rfl⟩
      replace H:(if bq7=true then (if x3_1 < 0 then (impl_Fair_pick.l0 k1 x9_1 l0_4 (l0_4.length:Int) (wrap64 (x9_1 + 1)) a0_0 a0_1 a0_2 a0_3 l0_4) else ((impl_VecTop.f ((rd_T51 l0_4 x9_1).f3.f0) ((rd_T51 l0_4 x9_1).f3.f1) ((rd_T51 l0_4 x9_1).f3.f2)).bind fun Xa=>(if 0≤x3_1 then (if x3_1 < (l0_4.length:Int) then ((impl_VecTop.f ((rd_T51 l0_4 x3_1).f3.f0) ((rd_T51 l0_4 x3_1).f3.f1) ((rd_T51 l0_4 x3_1).f3.f2)).bind fun Jb=>(if Xa < Jb then (impl_Fair_pick.l0 k1 x9_1 l0_4 (l0_4.length:Int) (wrap64 (x9_1 + 1)) a0_0 a0_1 a0_2 a0_3 l0_4) else (impl_Fair_pick.l0 k1 x3_1 l0_4 (l0_4.length:Int) (wrap64 (x9_1 + 1)) a0_0 a0_1 a0_2 a0_3 l0_4))) else (none)) else (none)))) else (impl_Fair_pick.l0 k1 x3_1 l0_4 (l0_4.length:Int) (wrap64 (x9_1 + 1)) a0_0 a0_1 a0_2 a0_3 l0_4))=some r:=by rw [← hbq7] at H;exact H
      have Nbq7 := D hbq7; clear hbq7
      by_cases c8 : bq7 = true
      ·subst c8
       rw [if_pos rfl] at H
       by_cases c9 : x3_1 < 0
       ·rw [if_pos c9] at H
        have c9b0:decide (x3_1 < 0)=true:=decide_eq_true c9;clear c9;have H':=D H;clear H;have p373:0≤(x9_1:Int):=od_ Z52;have q373:x9_1 < (l0_4.length:Int):=od_ Z52;obtain ⟨ad373,e373,hx373_0,hx373_1,hx373_2,hx373_3,hx373_4,hx373_5⟩:=at_T51 HR0_4.out x9_1 p373 q373;(try rw [← Nbq7.out] at hx373_2);(try rw [← Nbq7.out] at hw373_2);cases e373;replace hx373_0:=rc_ HB.out hx373_0;replace hx373_1:=rc_ HB.out hx373_1;replace hx373_2:=rc_ HB.out hx373_2;replace hx373_3:=rc_ HB.out hx373_3;replace hx373_4:=rc_ HB.out hx373_4;replace hx373_5:=rc_ HB.out hx373_5;replace p373:=eq_true p373;replace q373:=eq_true q373
        try go_wp2_with (first|((with_reducible refine gate_dst (N:=5) rfl ?_);refine bx_ (N:=5) (cs:=#[I L 0,I L 0,.bool false,I L 0,I L 0,I L 0]) (t:=51) ?_;intro Ja hg w10 hbox hb;have n_:=an_ (blk_below (pk_ Ma.out) hb)<|an_ (below_step (pB_ HB.out) hb)<|an_ (hbox)<|an_ (bg_ hg (pB_ HB.out):w.heap.size≤Ja)<|an_ (bg_ hg (pB_ HB.out):w.heap.size≤Ja)<|an_ (nl_ hg (pk_ Ma.out):Ua≠Ja)<|D (by rw [hg];exact Nat.ne_of_gt (blk_lt (pk_ Ma.out)):Ja≠Ua);clear Ma HB;obtain ⟨Ma,HB,Ka,Mb,Ob,Oa,Kb⟩:=n_;clear hb hbox hg;(try have:=Kb.out);(try have:=Oa.out);have Je:=cells6 Ka.out))
        obtain ⟨w13,hq_⟩:∃ W_,W_=((((((w10.setCell ⟨Ja,0,none⟩ (I L ((rd_T51 l0_4 x9_1).f0))).setCell ⟨Ja,1,none⟩ (I L ((rd_T51 l0_4 x9_1).f1))).setCell ⟨Ja,2,none⟩ (.bool true)).setCell ⟨Ja,3,none⟩ (I L ((rd_T51 l0_4 x9_1).f3.f0))).setCell ⟨Ja,4,none⟩ (I L ((rd_T51 l0_4 x9_1).f3.f1))).setCell ⟨Ja,5,none⟩ (I L ((rd_T51 l0_4 x9_1).f3.f2))):=⟨_,rfl⟩;have n0_:Aside0 (w13.heap[Ua]?=some (.cells #[I L a0_0,I L a0_1,I L a0_2,I L a0_3,Y (some ad373) l0_4.length c0_4] 34 (0,0))):=⟨by rw [hq_];exact pP_ Ma.out⟩;have n1_:Aside0 (w13.heap[Ja]?=some (.cells #[I L ((rd_T51 l0_4 x9_1).f0),I L ((rd_T51 l0_4 x9_1).f1),.bool true,I L ((rd_T51 l0_4 x9_1).f3.f0),I L ((rd_T51 l0_4 x9_1).f3.f1),I L ((rd_T51 l0_4 x9_1).f3.f2)] 51 (0,0))):=⟨by rw [hq_];exact pP_ Ka.out⟩;have n2_:Aside0 (Below w.heap.size w w13):=⟨by rw [hq_];exact pB_ HB.out⟩;(try clear Ma);(try clear Ka);(try clear HB);(try rw [←hq_]);clear hq_;have Ma:=n0_;have Ka:=n1_;have HB:=n2_;clear n0_ n1_ n2_
        have n_ := an_ (blk_drew Ma.out) <| an_ (blk_drew Ka.out) <| D (below_drew1 HB.out)
        clear Ma Ka HB;obtain ⟨Ma,Ka,HB⟩:=n_;refine start_ (n:=19) (S:=fun w'=>w'.cell? ⟨Ja,0,none⟩=some (I L ((rd_T51 l0_4 x9_1).f0))∧w'.cell? ⟨Ja,1,none⟩=some (I L ((rd_T51 l0_4 x9_1).f1))∧w'.cell? ⟨Ja,2,none⟩=some (.bool true)∧w'.cell? ⟨Ja,3,none⟩=some (I L ((rd_T51 l0_4 x9_1).f3.f0))∧w'.cell? ⟨Ja,4,none⟩=some (I L ((rd_T51 l0_4 x9_1).f3.f1))∧w'.cell? ⟨Ja,5,none⟩=some (I L ((rd_T51 l0_4 x9_1).f3.f2))) (ds:=[]) (bz 19 0) (by kernel_rfl) rfl (by kernel_rfl) (be6_ Ka.out) (fun hHeld=>?_);refine with_tabW impl_Fair_pick.tab5 impl_Fair_pick.bits5 (fun HT_ HW_=>?_);generalize w13.drew=w14 at Ma Ka HB hHeld ⊢;refine pb_ 0 ?_;refine tb_ 1 rfl rfl hHeld Z49 ?_;refine pb_ 2 ?_;refine pb_ 3 ?_;refine pb_ 4 ?_;refine pb_ 5 ?_;refine ob_ 6 ?_;refine ob_ 7 ?_;refine ob_ 8 ?_;refine ob_ 9 ?_;refine ob_ 10 ?_;refine ob_ 11 ?_;refine ob_ 12 ?_;refine ob_ 13 ?_;refine ob_ 14 ?_;refine ob_ 15 ?_;refine ob_ 16 ?_;refine pb_ 17 ?_;refine pb_ 18 ?_;refine done_ (done_of HT_.out (by kernel_rfl)) ?_
        try go_wp2
        go_roundg k1
        case measure => have := HK1.out; omega
        case rel => exact ⟨(x9_1), (wrap64 (x9_1 + 1)), Z53, Z53, H', ⟨by have := HK1.out; omega⟩, ⟨pk_ Ma.out⟩, ⟨pB_ HB.out⟩⟩
       ·rw [if_neg c9] at H
        have c9b0 : decide (x3_1 < 0) = false := decide_eq_false c9; clear c9; obtain ⟨Xa, A150, H⟩ := bs_.mp H; (try dsimp only at H); have A15 := D A150; clear A150
        by_cases c16 : 0 ≤ x3_1
        ·rw [if_pos c16] at H
         have c16b0 : decide (0 ≤ x3_1) = true := decide_eq_true c16; clear c16
         by_cases c17 : x3_1 < (l0_4.length : Int)
         ·rw [if_pos c17] at H
          have c17b0:decide (x3_1 < (l0_4.length:Int))=true:=decide_eq_true c17;clear c17;obtain ⟨Jb,A180,H⟩:=bs_.mp H;(try dsimp only at H);have A18:=D A180;clear A180;have HU19:=D H;clear H;have p373:0≤(x9_1:Int):=od_ Z52;have q373:x9_1 < (l0_4.length:Int):=od_ Z52;obtain ⟨ad373,e373,hx373_0,hx373_1,hx373_2,hx373_3,hx373_4,hx373_5⟩:=at_T51 HR0_4.out x9_1 p373 q373;(try rw [← Nbq7.out] at hx373_2);(try rw [← Nbq7.out] at hw373_2);cases e373;replace hx373_0:=rc_ HB.out hx373_0;replace hx373_1:=rc_ HB.out hx373_1;replace hx373_2:=rc_ HB.out hx373_2;replace hx373_3:=rc_ HB.out hx373_3;replace hx373_4:=rc_ HB.out hx373_4;replace hx373_5:=rc_ HB.out hx373_5;replace p373:=eq_true p373;replace q373:=eq_true q373
          try go_wp2_with (first|((with_reducible refine gate_dst (N:=5) rfl ?_);refine bx_ (N:=5) (cs:=#[I L 0,I L 0,.bool false,I L 0,I L 0,I L 0]) (t:=51) ?_;intro Ja hg w20 hbox hb;have n_:=an_ (blk_below (pk_ Ma.out) hb)<|an_ (below_step (pB_ HB.out) hb)<|an_ (hbox)<|an_ (bg_ hg (pB_ HB.out):w.heap.size≤Ja)<|an_ (bg_ hg (pB_ HB.out):w.heap.size≤Ja)<|an_ (nl_ hg (pk_ Ma.out):Ua≠Ja)<|D (by rw [hg];exact Nat.ne_of_gt (blk_lt (pk_ Ma.out)):Ja≠Ua);clear Ma HB;obtain ⟨Ma,HB,Ka,Mb,Ob,Oa,Kb⟩:=n_;clear hb hbox hg;(try have:=Kb.out);(try have:=Oa.out);have Jg:=cells6 Ka.out))
          obtain ⟨w23,hq_⟩:∃ W_,W_=((((((w20.setCell ⟨Ja,0,none⟩ (I L ((rd_T51 l0_4 x9_1).f0))).setCell ⟨Ja,1,none⟩ (I L ((rd_T51 l0_4 x9_1).f1))).setCell ⟨Ja,2,none⟩ (.bool true)).setCell ⟨Ja,3,none⟩ (I L ((rd_T51 l0_4 x9_1).f3.f0))).setCell ⟨Ja,4,none⟩ (I L ((rd_T51 l0_4 x9_1).f3.f1))).setCell ⟨Ja,5,none⟩ (I L ((rd_T51 l0_4 x9_1).f3.f2))):=⟨_,rfl⟩;have n0_:Aside0 (w23.heap[Ua]?=some (.cells #[I L a0_0,I L a0_1,I L a0_2,I L a0_3,Y (some ad373) l0_4.length c0_4] 34 (0,0))):=⟨by rw [hq_];exact pP_ Ma.out⟩;have n1_:Aside0 (w23.heap[Ja]?=some (.cells #[I L ((rd_T51 l0_4 x9_1).f0),I L ((rd_T51 l0_4 x9_1).f1),.bool true,I L ((rd_T51 l0_4 x9_1).f3.f0),I L ((rd_T51 l0_4 x9_1).f3.f1),I L ((rd_T51 l0_4 x9_1).f3.f2)] 51 (0,0))):=⟨by rw [hq_];exact pP_ Ka.out⟩;have n2_:Aside0 (Below w.heap.size w w23):=⟨by rw [hq_];exact pB_ HB.out⟩;(try clear Ma);(try clear Ka);(try clear HB);(try rw [←hq_]);clear hq_;have Ma:=n0_;have Ka:=n1_;have HB:=n2_;clear n0_ n1_ n2_
          have n_ := an_ (blk_drew Ma.out) <| an_ (blk_drew Ka.out) <| D (below_drew1 HB.out)
          clear Ma Ka HB;obtain ⟨Ma,Ka,HB⟩:=n_;have p376:0≤(x3_1:Int):=od_ Z52;have q376:x3_1 < (l0_4.length:Int):=od_ Z52;obtain ⟨ad376,e376,hx376_0,hx376_1,hx376_2,hx376_3,hx376_4,hx376_5⟩:=at_T51 HR0_4.out x3_1 p376 q376;have hw376_5:=hx376_5;have hw376_4:=hx376_4;have hw376_3:=hx376_3;have hw376_2:=hx376_2;have hw376_1:=hx376_1;have hw376_0:=hx376_0;(try rw [← Nbq7.out] at hx376_2);(try rw [← Nbq7.out] at hw376_2);obtain rfl:ad373=ad376:=(by injection e376);replace hx376_0:=rc_ HB.out hx376_0;replace hx376_1:=rc_ HB.out hx376_1;replace hx376_2:=rc_ HB.out hx376_2;replace hx376_3:=rc_ HB.out hx376_3;replace hx376_4:=rc_ HB.out hx376_4;replace hx376_5:=rc_ HB.out hx376_5;replace p376:=eq_true p376;replace q376:=eq_true q376;refine start_ (n:=19) (S:=fun w'=>w'.cell? ⟨Ja,0,none⟩=some (I L ((rd_T51 l0_4 x9_1).f0))∧w'.cell? ⟨Ja,1,none⟩=some (I L ((rd_T51 l0_4 x9_1).f1))∧w'.cell? ⟨Ja,2,none⟩=some (.bool true)∧w'.cell? ⟨Ja,3,none⟩=some (I L ((rd_T51 l0_4 x9_1).f3.f0))∧w'.cell? ⟨Ja,4,none⟩=some (I L ((rd_T51 l0_4 x9_1).f3.f1))∧w'.cell? ⟨Ja,5,none⟩=some (I L ((rd_T51 l0_4 x9_1).f3.f2))∧w'.cell? ⟨Ua,0,none⟩=some (I L a0_0)∧w'.cell? ⟨Ua,1,none⟩=some (I L a0_1)∧w'.cell? ⟨Ua,2,none⟩=some (I L a0_2)∧w'.cell? ⟨Ua,3,none⟩=some (I L a0_3)∧w'.cell? ⟨Ua,4,none⟩=some (Y (some ad373) l0_4.length c0_4)∧w'.cell? (ad373.add ((x3_1).toNat * 6))=some (I L ((rd_T51 l0_4 x3_1).f0))∧w'.cell? ⟨(ad373.add ((x3_1).toNat * 6)).block,(ad373.add ((x3_1).toNat * 6)).off + 1,none⟩=some (I L ((rd_T51 l0_4 x3_1).f1))∧w'.cell? ⟨(ad373.add ((x3_1).toNat * 6)).block,(ad373.add ((x3_1).toNat * 6)).off + 2,none⟩=some (.bool ((rd_T51 l0_4 x3_1).f2))∧w'.cell? ⟨(ad373.add ((x3_1).toNat * 6)).block,(ad373.add ((x3_1).toNat * 6)).off + 3,none⟩=some (I L ((rd_T51 l0_4 x3_1).f3.f0))∧w'.cell? ⟨(ad373.add ((x3_1).toNat * 6)).block,(ad373.add ((x3_1).toNat * 6)).off + 4,none⟩=some (I L ((rd_T51 l0_4 x3_1).f3.f1))∧w'.cell? ⟨(ad373.add ((x3_1).toNat * 6)).block,(ad373.add ((x3_1).toNat * 6)).off + 5,none⟩=some (I L ((rd_T51 l0_4 x3_1).f3.f2))) (ds:=[]) (bz 19 0) (by kernel_rfl) rfl (by kernel_rfl) (bk6_ Ka.out (bk5_ Ma.out (re6_ HB.out hw376_0 hw376_1 hw376_2 hw376_3 hw376_4 hw376_5))) (fun hHeld=>?_);refine with_tabW impl_Fair_pick.tab5 impl_Fair_pick.bits5 (fun HT_ HW_=>?_);generalize w23.drew=w24 at Ma Ka HB hx376_0 hx376_1 hx376_2 hx376_3 hx376_4 hx376_5 hHeld ⊢;refine pb_ 0 ?_;refine tb_ 1 rfl rfl hHeld Z30 ?_;refine pb_ 2 ?_;refine pb_ 3 ?_;refine pb_ 4 ?_
          refine pb_ 5 ?_;refine pb_ 6 ?_;refine pb_ 9 ?_;refine pb_ 11 ?_;refine tb_ 7 rfl rfl hHeld Z30 ?_;refine tb_ 10 rfl rfl hHeld Z30 ?_;refine pb_ 12 ?_;refine pb_ 13 ?_;refine tb_ 14 rfl rfl hHeld Z30 ?_;refine oa_ 8 22 19 32767 HT_ (fun K hK=>?_);refine goes_ Try.func63 (by kernel_rfl) rfl #[.agg #[I L ((rd_T51 l0_4 x9_1).f3.f0),I L ((rd_T51 l0_4 x9_1).f3.f1),I L ((rd_T51 l0_4 x9_1).f3.f2)]] (by rfl) rfl rfl Z21 ?_;with_reducible refine (impl_VecTop.calls ((rd_T51 l0_4 x9_1).f3.f0) ((rd_T51 l0_4 x9_1).f3.f1) ((rd_T51 l0_4 x9_1).f3.f2) Xa _ A15.out).mono ?_
          rintro e w25 ⟨rfl, hb⟩; refine ⟨_, rfl, ?_⟩
          have n_ := an_ (blk_below (pk_ Ma.out) hb) <| an_ (blk_below (pk_ Ka.out) hb) <| D (below_step (pB_ HB.out) hb)
          clear Ma Ka HB;obtain ⟨Ma,Ka,HB⟩:=n_;refine hK.out _ _ (bk6_ Ka.out (bk5_ Ma.out (re6_ HB.out hw376_0 hw376_1 hw376_2 hw376_3 hw376_4 hw376_5))) (fun hHeld=>?_);clear hK K;refine nx_ (N:=some 22) ?_;refine oa_ 15 29 19 65535 HT_ (fun K hK=>?_);refine goes_ Try.func63 (by kernel_rfl) rfl #[.agg #[I L ((rd_T51 l0_4 x3_1).f3.f0),I L ((rd_T51 l0_4 x3_1).f3.f1),I L ((rd_T51 l0_4 x3_1).f3.f2)]] (by rfl) rfl rfl Z21 ?_;with_reducible refine (impl_VecTop.calls ((rd_T51 l0_4 x3_1).f3.f0) ((rd_T51 l0_4 x3_1).f3.f1) ((rd_T51 l0_4 x3_1).f3.f2) Jb _ A18.out).mono ?_
          rintro e w26 ⟨rfl, hb⟩; refine ⟨_, rfl, ?_⟩
          have n_ := an_ (blk_below (pk_ Ma.out) hb) <| an_ (blk_below (pk_ Ka.out) hb) <| D (below_step (pB_ HB.out) hb)
          clear Ma Ka HB;obtain ⟨Ma,Ka,HB⟩:=n_;refine hK.out _ _ (bk6_ Ka.out (bk5_ Ma.out (re6_ HB.out hw376_0 hw376_1 hw376_2 hw376_3 hw376_4 hw376_5))) (fun hHeld=>?_);clear hK K;refine nx_ (N:=some 29) ?_;refine pb_ 16 ?_;refine pb_ 17 ?_;refine pb_ 18 ?_;refine done_ (done_of HT_.out (by kernel_rfl)) ?_
          go_upto_if 32 with (fail)
          have H := HU19.out; clear HU19
          by_cases c27 : Xa < Jb
          ·rw [if_pos c27] at H
           have c27b0:decide (Xa < Jb)=true:=decide_eq_true c27;clear c27;refine rw_ c27b0 ?_;have H':=D H;clear H
           go_wp2
           go_roundg k1
           case measure => have := HK1.out; omega
           case rel => exact ⟨(x9_1), (wrap64 (x9_1 + 1)), Z53, Z53, H', ⟨by have := HK1.out; omega⟩, ⟨pk_ Ma.out⟩, ⟨pB_ HB.out⟩⟩
          ·rw [if_neg c27] at H
           have c27b0:decide (Xa < Jb)=false:=decide_eq_false c27;clear c27;refine rw_ c27b0 ?_;have H':=D H;clear H
           go_wp2
           go_roundg k1
           case measure => have := HK1.out; omega
           case rel => exact ⟨(x3_1), (wrap64 (x9_1 + 1)), Z53, Z53, H', ⟨by have := HK1.out; omega⟩, ⟨pk_ Ma.out⟩, ⟨pB_ HB.out⟩⟩
         ·rw [if_neg c17] at H
          exact absurd H (by simp)
        ·rw [if_neg c16] at H
         exact absurd H (by simp)
      ·replace c8 := Bool.eq_false_iff.mpr c8
       subst c8;rw [if_neg (show ¬ (false=true) by decide)] at H;have H':=D H;clear H;have p373:0≤(x9_1:Int):=od_ Z52;have q373:x9_1 < (l0_4.length:Int):=od_ Z52;obtain ⟨ad373,e373,hx373_0,hx373_1,hx373_2,hx373_3,hx373_4,hx373_5⟩:=at_T51 HR0_4.out x9_1 p373 q373;(try rw [← Nbq7.out] at hx373_2);(try rw [← Nbq7.out] at hw373_2);cases e373;replace hx373_0:=rc_ HB.out hx373_0;replace hx373_1:=rc_ HB.out hx373_1;replace hx373_2:=rc_ HB.out hx373_2;replace hx373_3:=rc_ HB.out hx373_3;replace hx373_4:=rc_ HB.out hx373_4;replace hx373_5:=rc_ HB.out hx373_5;replace p373:=eq_true p373;replace q373:=eq_true q373
       try go_wp2_with (first|((with_reducible refine gate_dst (N:=5) rfl ?_);refine bx_ (N:=5) (cs:=#[I L 0,I L 0,.bool false,I L 0,I L 0,I L 0]) (t:=51) ?_;intro Ja hg w28 hbox hb;have n_:=an_ (blk_below (pk_ Ma.out) hb)<|an_ (below_step (pB_ HB.out) hb)<|an_ (hbox)<|an_ (bg_ hg (pB_ HB.out):w.heap.size≤Ja)<|an_ (bg_ hg (pB_ HB.out):w.heap.size≤Ja)<|an_ (nl_ hg (pk_ Ma.out):Ua≠Ja)<|D (by rw [hg];exact Nat.ne_of_gt (blk_lt (pk_ Ma.out)):Ja≠Ua);clear Ma HB;obtain ⟨Ma,HB,Ka,Mb,Ob,Oa,Kb⟩:=n_;clear hb hbox hg;(try have:=Kb.out);(try have:=Oa.out);have Ji:=cells6 Ka.out))
       obtain ⟨w31,hq_⟩:∃ W_,W_=((((((w28.setCell ⟨Ja,0,none⟩ (I L ((rd_T51 l0_4 x9_1).f0))).setCell ⟨Ja,1,none⟩ (I L ((rd_T51 l0_4 x9_1).f1))).setCell ⟨Ja,2,none⟩ (.bool false)).setCell ⟨Ja,3,none⟩ (I L ((rd_T51 l0_4 x9_1).f3.f0))).setCell ⟨Ja,4,none⟩ (I L ((rd_T51 l0_4 x9_1).f3.f1))).setCell ⟨Ja,5,none⟩ (I L ((rd_T51 l0_4 x9_1).f3.f2))):=⟨_,rfl⟩;have n0_:Aside0 (w31.heap[Ua]?=some (.cells #[I L a0_0,I L a0_1,I L a0_2,I L a0_3,Y (some ad373) l0_4.length c0_4] 34 (0,0))):=⟨by rw [hq_];exact pP_ Ma.out⟩;have n1_:Aside0 (w31.heap[Ja]?=some (.cells #[I L ((rd_T51 l0_4 x9_1).f0),I L ((rd_T51 l0_4 x9_1).f1),.bool false,I L ((rd_T51 l0_4 x9_1).f3.f0),I L ((rd_T51 l0_4 x9_1).f3.f1),I L ((rd_T51 l0_4 x9_1).f3.f2)] 51 (0,0))):=⟨by rw [hq_];exact pP_ Ka.out⟩;have n2_:Aside0 (Below w.heap.size w w31):=⟨by rw [hq_];exact pB_ HB.out⟩;(try clear Ma);(try clear Ka);(try clear HB);(try rw [←hq_]);clear hq_;have Ma:=n0_;have Ka:=n1_;have HB:=n2_;clear n0_ n1_ n2_
       have n_ := an_ (blk_drew Ma.out) <| an_ (blk_drew Ka.out) <| D (below_drew1 HB.out)
       clear Ma Ka HB;obtain ⟨Ma,Ka,HB⟩:=n_;refine start_ (n:=19) (S:=fun w'=>w'.cell? ⟨Ja,0,none⟩=some (I L ((rd_T51 l0_4 x9_1).f0))∧w'.cell? ⟨Ja,1,none⟩=some (I L ((rd_T51 l0_4 x9_1).f1))∧w'.cell? ⟨Ja,2,none⟩=some (.bool false)∧w'.cell? ⟨Ja,3,none⟩=some (I L ((rd_T51 l0_4 x9_1).f3.f0))∧w'.cell? ⟨Ja,4,none⟩=some (I L ((rd_T51 l0_4 x9_1).f3.f1))∧w'.cell? ⟨Ja,5,none⟩=some (I L ((rd_T51 l0_4 x9_1).f3.f2))) (ds:=[]) (bz 19 0) (by kernel_rfl) rfl (by kernel_rfl) (be6_ Ka.out) (fun hHeld=>?_);refine with_tabW impl_Fair_pick.tab5 impl_Fair_pick.bits5 (fun HT_ HW_=>?_);generalize w31.drew=w32 at Ma Ka HB hHeld ⊢;refine pb_ 0 ?_;refine tb_ 1 rfl rfl hHeld Z49 ?_;refine pb_ 2 ?_;refine ob_ 3 ?_;refine ob_ 4 ?_;refine ob_ 5 ?_;refine ob_ 6 ?_;refine ob_ 7 ?_;refine ob_ 8 ?_;refine ob_ 9 ?_;refine ob_ 10 ?_;refine ob_ 11 ?_;refine ob_ 12 ?_;refine ob_ 13 ?_;refine ob_ 14 ?_;refine ob_ 15 ?_;refine ob_ 16 ?_;refine ob_ 17 ?_;refine pb_ 18 ?_;refine done_ (done_of HT_.out (by kernel_rfl)) ?_
       try go_wp2
       go_roundg k1
       case measure => have := HK1.out; omega
       case rel => exact ⟨(x3_1), (wrap64 (x9_1 + 1)), Z53, Z53, H', ⟨by have := HK1.out; omega⟩, ⟨pk_ Ma.out⟩, ⟨pB_ HB.out⟩⟩
     ·rw [if_neg c6] at H
      exact absurd H (by simp)
    ·rw [if_neg c5] at H
     exact absurd H (by simp)
   ·rw [if_neg c4] at H
    have c4b0 : decide (x9_1 < (l0_4.length : Int)) = false := decide_eq_false c4; clear c4; obtain rfl := Option.some.inj H
    go_wp2
    go_ret; exact ⟨er_, pB_ HB.out⟩

/-! ### impl_Fair_isBusy: function 44 -/
def impl_Fair_isBusy.f (k : Nat) (a0_0 a0_1 a0_2 a0_3 : Int) (l0_4 : List (S51)) : Option (Bool) := (impl_Fair_pick.f k a0_0 a0_1 a0_2 a0_3 l0_4).bind fun Od => (some (decide (Od ≥ 0)))
set_option maxHeartbeats 8000000 in
set_option maxRecDepth 100000 in
theorem impl_Fair_isBusy.calls (k : Nat) (a0_0 a0_1 a0_2 a0_3 : Int) (A0_4 : Option Addr) (c0_4 : Nat) (l0_4 : List (S51)) (r : Bool) (w : World) (hr0_4 : Kd.C k51 w A0_4 l0_4.length l0_4) (hc0_4 : l0_4.length ≤ c0_4) (h : impl_Fair_isBusy.f k a0_0 a0_1 a0_2 a0_3 l0_4 = some r) :
  Calls Try.prog 44 #[.agg #[I L a0_0, I L a0_1, I L a0_2, I L a0_3, Y A0_4 l0_4.length c0_4]] w fun e w' => e = .returned (.bool r) ∧ Below w.heap.size w w' := by
 have hu34 := Try.underlying34
 have HR0_4 := D hr0_4
 have HC0_4 := D hc0_4
 clear hr0_4 hc0_4
 have HB := D (Below.refl w.heap.size w)
 have H : ((impl_Fair_pick.f k a0_0 a0_1 a0_2 a0_3 l0_4).bind fun t379 => (some (decide (t379 ≥ 0)))) = some r := h
 clear h
 obtain ⟨t379, A20, H⟩ := bs_.mp H
 (try dsimp only at H)
 have A2 := D A20
 clear A20
 obtain rfl := Option.some.inj H
 go_enter Try.func44, Try.ntmps44
 go_wp2_with (first|((with_reducible refine gate_dst (N:=1) rfl ?_);refine bx_ (N:=1) (cs:=#[I L a0_0,I L a0_1,I L a0_2,I L a0_3,Y A0_4 l0_4.length c0_4]) (t:=34) ?_;intro gb378 hg w3 hbox hb;have n_:=an_ (below_step (pB_ HB.out) hb)<|an_ (hbox)<|an_ (bg_ hg (pB_ HB.out):w.heap.size≤gb378)<|D (bg_ hg (pB_ HB.out):w.heap.size≤gb378);clear HB;obtain ⟨HB,BK378,GW378,GE378⟩:=n_;clear hb hbox hg;have hcz4_0:=cells5 BK378.out)|((with_reducible refine gate_callee (f:=65) rfl ?_);refine goesL_ (some 4) rfl rfl Try.func65 (by kernel_rfl) rfl #[.agg #[I L a0_0,I L a0_1,I L a0_2,I L a0_3,Y A0_4 l0_4.length c0_4]] rfl Z21 ?_;(with_reducible refine (impl_Fair_pick.calls k a0_0 a0_1 a0_2 a0_3 _ _ l0_4 t379 _ ?side1 ?side2 A2.out).mono ?_);(case side1=>exact pC_ (Kd.C_below HR0_4.out HB.out));(case side2=>exact HC0_4.out);rintro e w5 ⟨rfl,hb⟩;refine ⟨_,rfl,?_⟩;have n_:=an_ (blk_below (pk_ BK378.out) hb)<|D (below_step (pB_ HB.out) hb);clear BK378 HB;obtain ⟨BK378,HB⟩:=n_;(try clear hb)))
 go_ret
 exact ⟨er_, pB_ HB.out⟩

end Go.Proofs.Ytjfknflhajeglab.PFnExactTreeTenant
