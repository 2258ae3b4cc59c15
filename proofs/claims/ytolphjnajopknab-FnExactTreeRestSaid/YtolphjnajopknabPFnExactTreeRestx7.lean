-- by a program of this session's, over the kit's words
import Derived.Test.YtolphjnajopknabPZFnExactTreeRest
import Derived.Test.YtolphjnajopknabPFnExactTreeRestx0
import Derived.Test.YtolphjnajopknabPFnExactTreeRestx6
namespace Go.Proofs.Ytolphjnajopknab.PFnExactTreeRest
open Go.RowKit Go.Proofs.YtolphjnajopknabW.PrintWords Go.Proofs.YtolphjnajopknabW.PrintLast Go.Proofs.YtolphjnajopknabW.PrintMore Go.Proofs.YtolphjnajopknabV Go.Proofs.Ytolphjnajopknab.ZFnExactTreeRest
open Go.Value renaming int → I, slice → Y
open Go.IntKind renaming i64 → L
open Aside0 renaming mk → D
open Option renaming bind_eq_some_iff → bs_
attribute [local go_sem] max2_int min2_int max_two min_two max_three min_three max_four min_four   -- for this text's walks alone
set_option linter.unusedVariables false
set_option linter.unusedSimpArgs false

/-! ### impl_Fair_pick: function 43 -/
def impl_Fair_pick.l0 : Nat → Int → List (S70) → Int → Int → Int → Int → Int → Int → List (S70) → Option (Int)
 | 0, _, _, _, _, _, _, _, _, _ => none
 | k + 1,x3,x7,x8,x9,x326000,x326001,x326002,x326003,x326004=>if x9 < x8 then (if 0≤x9 then (if x9 < (x7.length:Int) then (if (rd_T70 x7 x9).f2=true then (if x3 < 0 then (impl_Fair_pick.l0 k x9 x7 x8 (wrap64 (x9 + 1)) x326000 x326001 x326002 x326003 x326004) else ((impl_VecTop.f ((rd_T70 x7 x9).f3.f0) ((rd_T70 x7 x9).f3.f1) ((rd_T70 x7 x9).f3.f2)).bind fun t328=>(if 0≤x3 then (if x3 < (x326004.length:Int) then ((impl_VecTop.f ((rd_T70 x326004 x3).f3.f0) ((rd_T70 x326004 x3).f3.f1) ((rd_T70 x326004 x3).f3.f2)).bind fun t330=>(if t328 < t330 then (impl_Fair_pick.l0 k x9 x7 x8 (wrap64 (x9 + 1)) x326000 x326001 x326002 x326003 x326004) else (impl_Fair_pick.l0 k x3 x7 x8 (wrap64 (x9 + 1)) x326000 x326001 x326002 x326003 x326004))) else (none)) else (none)))) else (impl_Fair_pick.l0 k x3 x7 x8 (wrap64 (x9 + 1)) x326000 x326001 x326002 x326003 x326004)) else (none)) else (none)) else (some x3)
def impl_Fair_pick.f (k : Nat) (a0_0 a0_1 a0_2 a0_3 : Int) (l0_4 : List (S70)) : Option (Int) := impl_Fair_pick.l0 k (-1) l0_4 (l0_4.length : Int) 0 a0_0 a0_1 a0_2 a0_3 l0_4
def impl_Fair_pick.T5 : Bool × List (List Nat × List Nat) := (true, [([], []), ([0], [0]), ([1], [1]), ([2], [2]), ([3, 2], [2, 3]), ([4, 2, 2], [2, 4]), ([5], [5]), ([6, 5], [5, 6]), ([7, 5, 5], [5, 7]), ([5], [5]), ([9, 5], [5, 9]), ([5], [5]), ([10, 11, 5], [5, 10, 11]), ([12, 5], [5, 12]), ([13, 5], [5, 13]), ([14, 8, 5], [5, 14]), ([8, 15, 5], [5, 8, 15]), ([5, 16, 2], [2, 5, 16]), ([2, 17], [2, 17])])
def impl_Fair_pick.B5 : List Nat := [0, 1, 3, 7, 15, 31, 63, 127, 255, 63, 575, 63, 3647, 7743, 15935, 32767, 65535, 131071, 262143]
theorem impl_Fair_pick.tab5 : rtab .any (opsOf Try.f43 5) = impl_Fair_pick.T5 := by kernel_rfl
theorem impl_Fair_pick.bits5 : waitsOk impl_Fair_pick.T5.2 impl_Fair_pick.B5 = true := by kernel_rfl
set_option maxHeartbeats 8000000 in
set_option maxRecDepth 100000 in
theorem impl_Fair_pick.calls (k : Nat) (a0_0 a0_1 a0_2 a0_3 : Int) (A0_4 : Option Addr) (c0_4 : Nat) (l0_4 : List (S70)) (r : Int) (w : World) (hr0_4 : Kd.C k70 w A0_4 l0_4.length l0_4) (hc0_4 : l0_4.length ≤ c0_4) (h : impl_Fair_pick.f k a0_0 a0_1 a0_2 a0_3 l0_4 = some r) :
  Calls Try.prog 43 #[.agg #[I L a0_0, I L a0_1, I L a0_2, I L a0_3, Y A0_4 l0_4.length c0_4]] w fun e w' => e = .returned (I L r) ∧ Below w.heap.size w w' := by
 have hu34 := Try.underlying34
 have hu70 := Try.underlying70
 have hu31 := Try.underlying31
 have HR0_4 := D hr0_4
 have HC0_4 := D hc0_4
 clear hr0_4 hc0_4
 have HB := D (Below.refl w.heap.size w)
 have H : (impl_Fair_pick.l0 k (-1) l0_4 (l0_4.length : Int) 0 a0_0 a0_1 a0_2 a0_3 l0_4) = some r := h
 clear h
 have H' := D H
 clear H
 go_enter Try.func43, Try.ntmps43
 go_wp2_with (first|((with_reducible refine gate_dst (N:=1) rfl ?_);refine bx_ (N:=1) (cs:=#[I L a0_0,I L a0_1,I L a0_2,I L a0_3,Y A0_4 l0_4.length c0_4]) (t:=34) ?_;intro Ua hg w2 hbox hb;have n_:=an_ (below_step (pB_ HB.out) hb)<|an_ (hbox)<|an_ (bg_ hg (pB_ HB.out):w.heap.size≤Ua)<|D (bg_ hg (pB_ HB.out):w.heap.size≤Ua);clear HB;obtain ⟨HB,Ma,Ud,Xd⟩:=n_;clear hb hbox hg;obtain ⟨Ub,Xb,Jc,Kc,Mc,Oc,Uc,Xc,Jd,Md⟩:=cells5 Ma.out))
 go_loopg [3,9] k (fun kq v3 v9 w'=>∃ (x3_1:Int) (x9_1:Int),v3=I L x3_1∧v9=I L x9_1∧Aside0 (impl_Fair_pick.l0 kq x3_1 l0_4 (l0_4.length:Int) x9_1 a0_0 a0_1 a0_2 a0_3 l0_4=some r)∧Aside0 (kq≤k)∧Aside0 (w'.heap[Ua]?=some (.cells #[I L a0_0,I L a0_1,I L a0_2,I L a0_3,(Y A0_4 l0_4.length c0_4)] 34 (0,0)))∧Aside0 (Below w.heap.size w w'))
 case atStart => exact ⟨((-1)), (0), Z48, Z48, H', ⟨Nat.le_refl _⟩, ⟨pk_ Ma.out⟩, ⟨pB_ HB.out⟩⟩
 case round =>
  clear H'
  try clear p2
  try clear Ub Xb Jc Kc Mc Oc Uc Xc Jd Md
  obtain ⟨x3_1, x9_1, rfl, rfl, HA, HK1, Ma, HB⟩ := hrel
  cases gk with
  | zero => exact absurd HA.out (by simp [impl_Fair_pick.l0])
  | succ k1 =>
   have H := HA.out; clear HA; simp only [impl_Fair_pick.l0] at H
   by_cases c4 : x9_1 < (l0_4.length : Int)
   ·rw [if_pos c4] at H
    have c4b0 : decide (x9_1 < (l0_4.length : Int)) = true := decide_eq_true c4; clear c4
    by_cases c5 : 0 ≤ x9_1
    ·rw [if_pos c5] at H
     have c5b0 : decide (0 ≤ x9_1) = true := decide_eq_true c5; clear c5
     by_cases c6 : x9_1 < (l0_4.length : Int)
     ·rw [if_pos c6] at H
      have c6b0 : decide (x9_1 < (l0_4.length : Int)) = true := decide_eq_true c6; clear c6; obtain ⟨bq7, hbq7⟩ : ∃ b_ : Bool, b_ = ((rd_T70 l0_4 x9_1).f2) := ⟨_, rfl⟩
      replace H:(if bq7=true then (if x3_1 < 0 then (impl_Fair_pick.l0 k1 x9_1 l0_4 (l0_4.length:Int) (wrap64 (x9_1 + 1)) a0_0 a0_1 a0_2 a0_3 l0_4) else ((impl_VecTop.f ((rd_T70 l0_4 x9_1).f3.f0) ((rd_T70 l0_4 x9_1).f3.f1) ((rd_T70 l0_4 x9_1).f3.f2)).bind fun Xa=>(if 0≤x3_1 then (if x3_1 < (l0_4.length:Int) then ((impl_VecTop.f ((rd_T70 l0_4 x3_1).f3.f0) ((rd_T70 l0_4 x3_1).f3.f1) ((rd_T70 l0_4 x3_1).f3.f2)).bind fun Jb=>(if Xa < Jb then (impl_Fair_pick.l0 k1 x9_1 l0_4 (l0_4.length:Int) (wrap64 (x9_1 + 1)) a0_0 a0_1 a0_2 a0_3 l0_4) else (impl_Fair_pick.l0 k1 x3_1 l0_4 (l0_4.length:Int) (wrap64 (x9_1 + 1)) a0_0 a0_1 a0_2 a0_3 l0_4))) else (none)) else (none)))) else (impl_Fair_pick.l0 k1 x3_1 l0_4 (l0_4.length:Int) (wrap64 (x9_1 + 1)) a0_0 a0_1 a0_2 a0_3 l0_4))=some r:=by rw [← hbq7] at H;exact H
      have Nbq7 := D hbq7; clear hbq7
      by_cases c8 : bq7 = true
      ·subst c8
       rw [if_pos rfl] at H
       by_cases c9 : x3_1 < 0
       ·rw [if_pos c9] at H
        have c9b0:decide (x3_1 < 0)=true:=decide_eq_true c9;clear c9;have H':=D H;clear H;have p326:0≤(x9_1:Int):=od_ Z47;have q326:x9_1 < (l0_4.length:Int):=od_ Z47;obtain ⟨ad326,e326,hx326_0,hx326_1,hx326_2,hx326_3,hx326_4,hx326_5⟩:=at_T70 HR0_4.out x9_1 p326 q326;(try rw [← Nbq7.out] at hx326_2);(try rw [← Nbq7.out] at hw326_2);cases e326;replace hx326_0:=rc_ HB.out hx326_0;replace hx326_1:=rc_ HB.out hx326_1;replace hx326_2:=rc_ HB.out hx326_2;replace hx326_3:=rc_ HB.out hx326_3;replace hx326_4:=rc_ HB.out hx326_4;replace hx326_5:=rc_ HB.out hx326_5;replace p326:=eq_true p326;replace q326:=eq_true q326
        try go_wp2_with (first|((with_reducible refine gate_dst (N:=5) rfl ?_);refine bx_ (N:=5) (cs:=#[I L 0,I L 0,.bool false,I L 0,I L 0,I L 0]) (t:=70) ?_;intro Ja hg w10 hbox hb;have n_:=an_ (blk_below (pk_ Ma.out) hb)<|an_ (below_step (pB_ HB.out) hb)<|an_ (hbox)<|an_ (bg_ hg (pB_ HB.out):w.heap.size≤Ja)<|an_ (bg_ hg (pB_ HB.out):w.heap.size≤Ja)<|an_ ((by rw [hg];exact Nat.ne_of_lt (blk_lt (pk_ Ma.out)):Ua≠Ja))<|D (by rw [hg];exact Nat.ne_of_gt (blk_lt (pk_ Ma.out)):Ja≠Ua);clear Ma HB;obtain ⟨Ma,HB,Ka,Mb,Ob,Oa,Kb⟩:=n_;clear hb hbox hg;(try have hnb11:=Kb.out);(try have hnc11:=Oa.out);obtain ⟨Je,Ke,Me,Oe,Ue,Xe,Jf,Kf,Mf,Of,Uf,Xf⟩:=cells6 Ka.out))
        obtain ⟨w13,hq_⟩:∃ W_,W_=((((((w10.setCell ⟨Ja,0,none⟩ (I L ((rd_T70 l0_4 x9_1).f0))).setCell ⟨Ja,1,none⟩ (I L ((rd_T70 l0_4 x9_1).f1))).setCell ⟨Ja,2,none⟩ (.bool true)).setCell ⟨Ja,3,none⟩ (I L ((rd_T70 l0_4 x9_1).f3.f0))).setCell ⟨Ja,4,none⟩ (I L ((rd_T70 l0_4 x9_1).f3.f1))).setCell ⟨Ja,5,none⟩ (I L ((rd_T70 l0_4 x9_1).f3.f2))):=⟨_,rfl⟩;have n0_:Aside0 (w13.heap[Ua]?=some (.cells #[I L a0_0,I L a0_1,I L a0_2,I L a0_3,Y (some ad326) l0_4.length c0_4] 34 (0,0))):=⟨by rw [hq_];exact pP_ Ma.out⟩;have n1_:Aside0 (w13.heap[Ja]?=some (.cells #[I L ((rd_T70 l0_4 x9_1).f0),I L ((rd_T70 l0_4 x9_1).f1),.bool true,I L ((rd_T70 l0_4 x9_1).f3.f0),I L ((rd_T70 l0_4 x9_1).f3.f1),I L ((rd_T70 l0_4 x9_1).f3.f2)] 70 (0,0))):=⟨by rw [hq_];exact pP_ Ka.out⟩;have n2_:Aside0 (Below w.heap.size w w13):=⟨by rw [hq_];exact pB_ HB.out⟩;(try clear Ma);(try clear Ka);(try clear HB);(try rw [←hq_]);clear hq_;have Ma:=n0_;have Ka:=n1_;have HB:=n2_;clear n0_ n1_ n2_
        have n_ := an_ (blk_drew Ma.out) <| an_ (blk_drew Ka.out) <| D (below_drew1 HB.out)
        clear Ma Ka HB;obtain ⟨Ma,Ka,HB⟩:=n_;refine start_ (n:=19) (S:=fun w'=>w'.cell? ⟨Ja,0,none⟩=some (I L ((rd_T70 l0_4 x9_1).f0))∧w'.cell? ⟨Ja,1,none⟩=some (I L ((rd_T70 l0_4 x9_1).f1))∧w'.cell? ⟨Ja,2,none⟩=some (.bool true)∧w'.cell? ⟨Ja,3,none⟩=some (I L ((rd_T70 l0_4 x9_1).f3.f0))∧w'.cell? ⟨Ja,4,none⟩=some (I L ((rd_T70 l0_4 x9_1).f3.f1))∧w'.cell? ⟨Ja,5,none⟩=some (I L ((rd_T70 l0_4 x9_1).f3.f2))) (ds:=[]) (bz 19 0) (by kernel_rfl) rfl (by kernel_rfl) ⟨bc_ Ka.out 0,bc_ Ka.out 1,bc_ Ka.out 2,bc_ Ka.out 3,bc_ Ka.out 4,bc_ Ka.out 5⟩ (fun hHeld=>?_);refine with_tabW impl_Fair_pick.tab5 impl_Fair_pick.bits5 (fun HT_ HW_=>?_);generalize w13.drew=w14 at Ma Ka HB hHeld ⊢;refine pa_ 0 14 19 1 HT_ ?_;refine ta_ 1 15 19 3 HT_ HW_ rfl rfl hHeld Z44 ?_;refine pa_ 2 16 19 7 HT_ ?_;refine pa_ 3 17 19 15 HT_ ?_;refine pa_ 4 18 19 31 HT_ ?_;refine pa_ 5 19 19 63 HT_ ?_;refine ox_ (i:=6) (N:=some 20) (bz 19 127) (any_of HT_.out (by kernel_rfl)) ?_;refine ox_ (i:=7) (N:=some 21) (bz 19 255) (any_of HT_.out (by kernel_rfl)) ?_;refine ox_ (i:=8) (N:=some 22) (bz 19 511) (any_of HT_.out (by kernel_rfl)) ?_;refine ox_ (i:=9) (N:=some 23) (bz 19 1023) (any_of HT_.out (by kernel_rfl)) ?_;refine ox_ (i:=10) (N:=some 24) (bz 19 2047) (any_of HT_.out (by kernel_rfl)) ?_;refine ox_ (i:=11) (N:=some 25) (bz 19 4095) (any_of HT_.out (by kernel_rfl)) ?_;refine ox_ (i:=12) (N:=some 26) (bz 19 8191) (any_of HT_.out (by kernel_rfl)) ?_;refine ox_ (i:=13) (N:=some 27) (bz 19 16383) (any_of HT_.out (by kernel_rfl)) ?_;refine ox_ (i:=14) (N:=some 28) (bz 19 32767) (any_of HT_.out (by kernel_rfl)) ?_;refine ox_ (i:=15) (N:=some 29) (bz 19 65535) (any_of HT_.out (by kernel_rfl)) ?_;refine ox_ (i:=16) (N:=some 30) (bz 19 131071) (any_of HT_.out (by kernel_rfl)) ?_;refine pa_ 17 31 19 262143 HT_ ?_;refine pa_ 18 32 19 524287 HT_ ?_;refine done_ (done_of HT_.out (by kernel_rfl)) ?_
        try go_wp2
        go_roundg k1
        case measure => have := HK1.out; omega
        case rel => exact ⟨(x9_1), (wrap64 (x9_1 + 1)), Z48, Z48, H', ⟨by have := HK1.out; omega⟩, ⟨pk_ Ma.out⟩, ⟨pB_ HB.out⟩⟩
       ·rw [if_neg c9] at H
        have c9b0 : decide (x3_1 < 0) = false := decide_eq_false c9; clear c9; obtain ⟨Xa, A150, H⟩ := bs_.mp H; (try dsimp only at H); have A15 := D A150; clear A150
        by_cases c16 : 0 ≤ x3_1
        ·rw [if_pos c16] at H
         have c16b0 : decide (0 ≤ x3_1) = true := decide_eq_true c16; clear c16
         by_cases c17 : x3_1 < (l0_4.length : Int)
         ·rw [if_pos c17] at H
          have c17b0:decide (x3_1 < (l0_4.length:Int))=true:=decide_eq_true c17;clear c17;obtain ⟨Jb,A180,H⟩:=bs_.mp H;(try dsimp only at H);have A18:=D A180;clear A180;have HU19:=D H;clear H;have p326:0≤(x9_1:Int):=od_ Z47;have q326:x9_1 < (l0_4.length:Int):=od_ Z47;obtain ⟨ad326,e326,hx326_0,hx326_1,hx326_2,hx326_3,hx326_4,hx326_5⟩:=at_T70 HR0_4.out x9_1 p326 q326;(try rw [← Nbq7.out] at hx326_2);(try rw [← Nbq7.out] at hw326_2);cases e326;replace hx326_0:=rc_ HB.out hx326_0;replace hx326_1:=rc_ HB.out hx326_1;replace hx326_2:=rc_ HB.out hx326_2;replace hx326_3:=rc_ HB.out hx326_3;replace hx326_4:=rc_ HB.out hx326_4;replace hx326_5:=rc_ HB.out hx326_5;replace p326:=eq_true p326;replace q326:=eq_true q326
          try go_wp2_with (first|((with_reducible refine gate_dst (N:=5) rfl ?_);refine bx_ (N:=5) (cs:=#[I L 0,I L 0,.bool false,I L 0,I L 0,I L 0]) (t:=70) ?_;intro Ja hg w20 hbox hb;have n_:=an_ (blk_below (pk_ Ma.out) hb)<|an_ (below_step (pB_ HB.out) hb)<|an_ (hbox)<|an_ (bg_ hg (pB_ HB.out):w.heap.size≤Ja)<|an_ (bg_ hg (pB_ HB.out):w.heap.size≤Ja)<|an_ ((by rw [hg];exact Nat.ne_of_lt (blk_lt (pk_ Ma.out)):Ua≠Ja))<|D (by rw [hg];exact Nat.ne_of_gt (blk_lt (pk_ Ma.out)):Ja≠Ua);clear Ma HB;obtain ⟨Ma,HB,Ka,Mb,Ob,Oa,Kb⟩:=n_;clear hb hbox hg;(try have hnb21:=Kb.out);(try have hnc21:=Oa.out);obtain ⟨Jg,Kg,Mg,Og,Ug,Xg,Jh,Kh,Mh,Oh,Uh,Xh⟩:=cells6 Ka.out))
          obtain ⟨w23,hq_⟩:∃ W_,W_=((((((w20.setCell ⟨Ja,0,none⟩ (I L ((rd_T70 l0_4 x9_1).f0))).setCell ⟨Ja,1,none⟩ (I L ((rd_T70 l0_4 x9_1).f1))).setCell ⟨Ja,2,none⟩ (.bool true)).setCell ⟨Ja,3,none⟩ (I L ((rd_T70 l0_4 x9_1).f3.f0))).setCell ⟨Ja,4,none⟩ (I L ((rd_T70 l0_4 x9_1).f3.f1))).setCell ⟨Ja,5,none⟩ (I L ((rd_T70 l0_4 x9_1).f3.f2))):=⟨_,rfl⟩;have n0_:Aside0 (w23.heap[Ua]?=some (.cells #[I L a0_0,I L a0_1,I L a0_2,I L a0_3,Y (some ad326) l0_4.length c0_4] 34 (0,0))):=⟨by rw [hq_];exact pP_ Ma.out⟩;have n1_:Aside0 (w23.heap[Ja]?=some (.cells #[I L ((rd_T70 l0_4 x9_1).f0),I L ((rd_T70 l0_4 x9_1).f1),.bool true,I L ((rd_T70 l0_4 x9_1).f3.f0),I L ((rd_T70 l0_4 x9_1).f3.f1),I L ((rd_T70 l0_4 x9_1).f3.f2)] 70 (0,0))):=⟨by rw [hq_];exact pP_ Ka.out⟩;have n2_:Aside0 (Below w.heap.size w w23):=⟨by rw [hq_];exact pB_ HB.out⟩;(try clear Ma);(try clear Ka);(try clear HB);(try rw [←hq_]);clear hq_;have Ma:=n0_;have Ka:=n1_;have HB:=n2_;clear n0_ n1_ n2_
          have n_ := an_ (blk_drew Ma.out) <| an_ (blk_drew Ka.out) <| D (below_drew1 HB.out)
          clear Ma Ka HB;obtain ⟨Ma,Ka,HB⟩:=n_;have p329:0≤(x3_1:Int):=od_ Z47;have q329:x3_1 < (l0_4.length:Int):=od_ Z47;obtain ⟨ad329,e329,hx329_0,hx329_1,hx329_2,hx329_3,hx329_4,hx329_5⟩:=at_T70 HR0_4.out x3_1 p329 q329;have hw329_5:=hx329_5;have hw329_4:=hx329_4;have hw329_3:=hx329_3;have hw329_2:=hx329_2;have hw329_1:=hx329_1;have hw329_0:=hx329_0;(try rw [← Nbq7.out] at hx329_2);(try rw [← Nbq7.out] at hw329_2);obtain rfl:ad326=ad329:=(by injection e329);replace hx329_0:=rc_ HB.out hx329_0;replace hx329_1:=rc_ HB.out hx329_1;replace hx329_2:=rc_ HB.out hx329_2;replace hx329_3:=rc_ HB.out hx329_3;replace hx329_4:=rc_ HB.out hx329_4;replace hx329_5:=rc_ HB.out hx329_5;replace p329:=eq_true p329;replace q329:=eq_true q329;refine start_ (n:=19) (S:=fun w'=>w'.cell? ⟨Ja,0,none⟩=some (I L ((rd_T70 l0_4 x9_1).f0))∧w'.cell? ⟨Ja,1,none⟩=some (I L ((rd_T70 l0_4 x9_1).f1))∧w'.cell? ⟨Ja,2,none⟩=some (.bool true)∧w'.cell? ⟨Ja,3,none⟩=some (I L ((rd_T70 l0_4 x9_1).f3.f0))∧w'.cell? ⟨Ja,4,none⟩=some (I L ((rd_T70 l0_4 x9_1).f3.f1))∧w'.cell? ⟨Ja,5,none⟩=some (I L ((rd_T70 l0_4 x9_1).f3.f2))∧w'.cell? ⟨Ua,0,none⟩=some (I L a0_0)∧w'.cell? ⟨Ua,1,none⟩=some (I L a0_1)∧w'.cell? ⟨Ua,2,none⟩=some (I L a0_2)∧w'.cell? ⟨Ua,3,none⟩=some (I L a0_3)∧w'.cell? ⟨Ua,4,none⟩=some (Y (some ad326) l0_4.length c0_4)∧w'.cell? (ad326.add ((x3_1).toNat * 6))=some (I L ((rd_T70 l0_4 x3_1).f0))∧w'.cell? ⟨(ad326.add ((x3_1).toNat * 6)).block,(ad326.add ((x3_1).toNat * 6)).off + 1,none⟩=some (I L ((rd_T70 l0_4 x3_1).f1))∧w'.cell? ⟨(ad326.add ((x3_1).toNat * 6)).block,(ad326.add ((x3_1).toNat * 6)).off + 2,none⟩=some (.bool ((rd_T70 l0_4 x3_1).f2))∧w'.cell? ⟨(ad326.add ((x3_1).toNat * 6)).block,(ad326.add ((x3_1).toNat * 6)).off + 3,none⟩=some (I L ((rd_T70 l0_4 x3_1).f3.f0))∧w'.cell? ⟨(ad326.add ((x3_1).toNat * 6)).block,(ad326.add ((x3_1).toNat * 6)).off + 4,none⟩=some (I L ((rd_T70 l0_4 x3_1).f3.f1))∧w'.cell? ⟨(ad326.add ((x3_1).toNat * 6)).block,(ad326.add ((x3_1).toNat * 6)).off + 5,none⟩=some (I L ((rd_T70 l0_4 x3_1).f3.f2))) (ds:=[]) (bz 19 0) (by kernel_rfl) rfl (by kernel_rfl) ⟨bc_ Ka.out 0,bc_ Ka.out 1,bc_ Ka.out 2,bc_ Ka.out 3,bc_ Ka.out 4,bc_ Ka.out 5,bc_ Ma.out 0,bc_ Ma.out 1,bc_ Ma.out 2,bc_ Ma.out 3,bc_ Ma.out 4,(rc_ HB.out hw329_0:),(rc_ HB.out hw329_1:),(rc_ HB.out hw329_2:),(rc_ HB.out hw329_3:),(rc_ HB.out hw329_4:),(rc_ HB.out hw329_5:)⟩ (fun hHeld=>?_);refine with_tabW impl_Fair_pick.tab5 impl_Fair_pick.bits5 (fun HT_ HW_=>?_);generalize w23.drew=w24 at Ma Ka HB hx329_0 hx329_1 hx329_2 hx329_3 hx329_4 hx329_5 hHeld ⊢;refine pa_ 0 14 19 1 HT_ ?_;refine ta_ 1 15 19 3 HT_ HW_ rfl rfl hHeld Z27 ?_;refine pa_ 2 16 19 7 HT_ ?_;refine pa_ 3 17 19 15 HT_ ?_;refine pa_ 4 18 19 31 HT_ ?_
          refine pa_ 5 19 19 63 HT_ ?_;refine pa_ 6 20 19 127 HT_ ?_;refine pa_ 9 23 19 639 HT_ ?_;refine pa_ 11 25 19 2687 HT_ ?_;refine ta_ 7 21 19 2815 HT_ HW_ rfl rfl hHeld Z27 ?_;refine ta_ 10 24 19 3839 HT_ HW_ rfl rfl hHeld Z27 ?_;refine pa_ 12 26 19 7935 HT_ ?_;refine pa_ 13 27 19 16127 HT_ ?_;refine ta_ 14 28 19 32511 HT_ HW_ rfl rfl hHeld Z27 ?_;refine oa_ 8 22 19 32767 HT_ (fun K hK=>?_);refine goes_ Try.func56 (by kernel_rfl) rfl #[.agg #[I L ((rd_T70 l0_4 x9_1).f3.f0),I L ((rd_T70 l0_4 x9_1).f3.f1),I L ((rd_T70 l0_4 x9_1).f3.f2)]] (by rfl) rfl rfl Z18 ?_;with_reducible refine (impl_VecTop.calls ((rd_T70 l0_4 x9_1).f3.f0) ((rd_T70 l0_4 x9_1).f3.f1) ((rd_T70 l0_4 x9_1).f3.f2) Xa _ A15.out).mono ?_
          rintro e w25 ⟨rfl, hb⟩; refine ⟨_, rfl, ?_⟩
          have n_ := an_ (blk_below (pk_ Ma.out) hb) <| an_ (blk_below (pk_ Ka.out) hb) <| D (below_step (pB_ HB.out) hb)
          clear Ma Ka HB;obtain ⟨Ma,Ka,HB⟩:=n_;refine hK.out _ _ ⟨bc_ Ka.out 0,bc_ Ka.out 1,bc_ Ka.out 2,bc_ Ka.out 3,bc_ Ka.out 4,bc_ Ka.out 5,bc_ Ma.out 0,bc_ Ma.out 1,bc_ Ma.out 2,bc_ Ma.out 3,bc_ Ma.out 4,(rc_ HB.out hw329_0:),(rc_ HB.out hw329_1:),(rc_ HB.out hw329_2:),(rc_ HB.out hw329_3:),(rc_ HB.out hw329_4:),(rc_ HB.out hw329_5:)⟩ (fun hHeld=>?_);clear hK K;refine nx_ (N:=some 22) ?_;refine oa_ 15 29 19 65535 HT_ (fun K hK=>?_);refine goes_ Try.func56 (by kernel_rfl) rfl #[.agg #[I L ((rd_T70 l0_4 x3_1).f3.f0),I L ((rd_T70 l0_4 x3_1).f3.f1),I L ((rd_T70 l0_4 x3_1).f3.f2)]] (by rfl) rfl rfl Z18 ?_;with_reducible refine (impl_VecTop.calls ((rd_T70 l0_4 x3_1).f3.f0) ((rd_T70 l0_4 x3_1).f3.f1) ((rd_T70 l0_4 x3_1).f3.f2) Jb _ A18.out).mono ?_
          rintro e w26 ⟨rfl, hb⟩; refine ⟨_, rfl, ?_⟩
          have n_ := an_ (blk_below (pk_ Ma.out) hb) <| an_ (blk_below (pk_ Ka.out) hb) <| D (below_step (pB_ HB.out) hb)
          clear Ma Ka HB;obtain ⟨Ma,Ka,HB⟩:=n_;refine hK.out _ _ ⟨bc_ Ka.out 0,bc_ Ka.out 1,bc_ Ka.out 2,bc_ Ka.out 3,bc_ Ka.out 4,bc_ Ka.out 5,bc_ Ma.out 0,bc_ Ma.out 1,bc_ Ma.out 2,bc_ Ma.out 3,bc_ Ma.out 4,(rc_ HB.out hw329_0:),(rc_ HB.out hw329_1:),(rc_ HB.out hw329_2:),(rc_ HB.out hw329_3:),(rc_ HB.out hw329_4:),(rc_ HB.out hw329_5:)⟩ (fun hHeld=>?_);clear hK K;refine nx_ (N:=some 29) ?_;refine pa_ 16 30 19 131071 HT_ ?_;refine pa_ 17 31 19 262143 HT_ ?_;refine pa_ 18 32 19 524287 HT_ ?_;refine done_ (done_of HT_.out (by kernel_rfl)) ?_
          go_upto_if 32 with (fail)
          have H := HU19.out; clear HU19
          by_cases c27 : Xa < Jb
          ·rw [if_pos c27] at H
           have c27b0:decide (Xa < Jb)=true:=decide_eq_true c27;clear c27;refine rw_ c27b0 ?_;have H':=D H;clear H
           go_wp2
           go_roundg k1
           case measure => have := HK1.out; omega
           case rel => exact ⟨(x9_1), (wrap64 (x9_1 + 1)), Z48, Z48, H', ⟨by have := HK1.out; omega⟩, ⟨pk_ Ma.out⟩, ⟨pB_ HB.out⟩⟩
          ·rw [if_neg c27] at H
           have c27b0:decide (Xa < Jb)=false:=decide_eq_false c27;clear c27;refine rw_ c27b0 ?_;have H':=D H;clear H
           go_wp2
           go_roundg k1
           case measure => have := HK1.out; omega
           case rel => exact ⟨(x3_1), (wrap64 (x9_1 + 1)), Z48, Z48, H', ⟨by have := HK1.out; omega⟩, ⟨pk_ Ma.out⟩, ⟨pB_ HB.out⟩⟩
         ·rw [if_neg c17] at H
          exact absurd H (by simp)
        ·rw [if_neg c16] at H
         exact absurd H (by simp)
      ·replace c8 := Bool.eq_false_iff.mpr c8
       subst c8;rw [if_neg (show ¬ (false=true) by decide)] at H;have H':=D H;clear H;have p326:0≤(x9_1:Int):=od_ Z47;have q326:x9_1 < (l0_4.length:Int):=od_ Z47;obtain ⟨ad326,e326,hx326_0,hx326_1,hx326_2,hx326_3,hx326_4,hx326_5⟩:=at_T70 HR0_4.out x9_1 p326 q326;(try rw [← Nbq7.out] at hx326_2);(try rw [← Nbq7.out] at hw326_2);cases e326;replace hx326_0:=rc_ HB.out hx326_0;replace hx326_1:=rc_ HB.out hx326_1;replace hx326_2:=rc_ HB.out hx326_2;replace hx326_3:=rc_ HB.out hx326_3;replace hx326_4:=rc_ HB.out hx326_4;replace hx326_5:=rc_ HB.out hx326_5;replace p326:=eq_true p326;replace q326:=eq_true q326
       try go_wp2_with (first|((with_reducible refine gate_dst (N:=5) rfl ?_);refine bx_ (N:=5) (cs:=#[I L 0,I L 0,.bool false,I L 0,I L 0,I L 0]) (t:=70) ?_;intro Ja hg w28 hbox hb;have n_:=an_ (blk_below (pk_ Ma.out) hb)<|an_ (below_step (pB_ HB.out) hb)<|an_ (hbox)<|an_ (bg_ hg (pB_ HB.out):w.heap.size≤Ja)<|an_ (bg_ hg (pB_ HB.out):w.heap.size≤Ja)<|an_ ((by rw [hg];exact Nat.ne_of_lt (blk_lt (pk_ Ma.out)):Ua≠Ja))<|D (by rw [hg];exact Nat.ne_of_gt (blk_lt (pk_ Ma.out)):Ja≠Ua);clear Ma HB;obtain ⟨Ma,HB,Ka,Mb,Ob,Oa,Kb⟩:=n_;clear hb hbox hg;(try have hnb29:=Kb.out);(try have hnc29:=Oa.out);obtain ⟨Ji,Ki,Mi,Oi,Ui,Xi,Jj,Kj,Mj,Oj,Uj,Xj⟩:=cells6 Ka.out))
       obtain ⟨w31,hq_⟩:∃ W_,W_=((((((w28.setCell ⟨Ja,0,none⟩ (I L ((rd_T70 l0_4 x9_1).f0))).setCell ⟨Ja,1,none⟩ (I L ((rd_T70 l0_4 x9_1).f1))).setCell ⟨Ja,2,none⟩ (.bool false)).setCell ⟨Ja,3,none⟩ (I L ((rd_T70 l0_4 x9_1).f3.f0))).setCell ⟨Ja,4,none⟩ (I L ((rd_T70 l0_4 x9_1).f3.f1))).setCell ⟨Ja,5,none⟩ (I L ((rd_T70 l0_4 x9_1).f3.f2))):=⟨_,rfl⟩;have n0_:Aside0 (w31.heap[Ua]?=some (.cells #[I L a0_0,I L a0_1,I L a0_2,I L a0_3,Y (some ad326) l0_4.length c0_4] 34 (0,0))):=⟨by rw [hq_];exact pP_ Ma.out⟩;have n1_:Aside0 (w31.heap[Ja]?=some (.cells #[I L ((rd_T70 l0_4 x9_1).f0),I L ((rd_T70 l0_4 x9_1).f1),.bool false,I L ((rd_T70 l0_4 x9_1).f3.f0),I L ((rd_T70 l0_4 x9_1).f3.f1),I L ((rd_T70 l0_4 x9_1).f3.f2)] 70 (0,0))):=⟨by rw [hq_];exact pP_ Ka.out⟩;have n2_:Aside0 (Below w.heap.size w w31):=⟨by rw [hq_];exact pB_ HB.out⟩;(try clear Ma);(try clear Ka);(try clear HB);(try rw [←hq_]);clear hq_;have Ma:=n0_;have Ka:=n1_;have HB:=n2_;clear n0_ n1_ n2_
       have n_ := an_ (blk_drew Ma.out) <| an_ (blk_drew Ka.out) <| D (below_drew1 HB.out)
       clear Ma Ka HB;obtain ⟨Ma,Ka,HB⟩:=n_;refine start_ (n:=19) (S:=fun w'=>w'.cell? ⟨Ja,0,none⟩=some (I L ((rd_T70 l0_4 x9_1).f0))∧w'.cell? ⟨Ja,1,none⟩=some (I L ((rd_T70 l0_4 x9_1).f1))∧w'.cell? ⟨Ja,2,none⟩=some (.bool false)∧w'.cell? ⟨Ja,3,none⟩=some (I L ((rd_T70 l0_4 x9_1).f3.f0))∧w'.cell? ⟨Ja,4,none⟩=some (I L ((rd_T70 l0_4 x9_1).f3.f1))∧w'.cell? ⟨Ja,5,none⟩=some (I L ((rd_T70 l0_4 x9_1).f3.f2))) (ds:=[]) (bz 19 0) (by kernel_rfl) rfl (by kernel_rfl) ⟨bc_ Ka.out 0,bc_ Ka.out 1,bc_ Ka.out 2,bc_ Ka.out 3,bc_ Ka.out 4,bc_ Ka.out 5⟩ (fun hHeld=>?_);refine with_tabW impl_Fair_pick.tab5 impl_Fair_pick.bits5 (fun HT_ HW_=>?_);generalize w31.drew=w32 at Ma Ka HB hHeld ⊢;refine pa_ 0 14 19 1 HT_ ?_;refine ta_ 1 15 19 3 HT_ HW_ rfl rfl hHeld Z44 ?_;refine pa_ 2 16 19 7 HT_ ?_;refine ox_ (i:=3) (N:=some 17) (bz 19 15) (any_of HT_.out (by kernel_rfl)) ?_;refine ox_ (i:=4) (N:=some 18) (bz 19 31) (any_of HT_.out (by kernel_rfl)) ?_;refine ox_ (i:=5) (N:=some 19) (bz 19 63) (any_of HT_.out (by kernel_rfl)) ?_;refine ox_ (i:=6) (N:=some 20) (bz 19 127) (any_of HT_.out (by kernel_rfl)) ?_;refine ox_ (i:=7) (N:=some 21) (bz 19 255) (any_of HT_.out (by kernel_rfl)) ?_;refine ox_ (i:=8) (N:=some 22) (bz 19 511) (any_of HT_.out (by kernel_rfl)) ?_;refine ox_ (i:=9) (N:=some 23) (bz 19 1023) (any_of HT_.out (by kernel_rfl)) ?_;refine ox_ (i:=10) (N:=some 24) (bz 19 2047) (any_of HT_.out (by kernel_rfl)) ?_;refine ox_ (i:=11) (N:=some 25) (bz 19 4095) (any_of HT_.out (by kernel_rfl)) ?_;refine ox_ (i:=12) (N:=some 26) (bz 19 8191) (any_of HT_.out (by kernel_rfl)) ?_;refine ox_ (i:=13) (N:=some 27) (bz 19 16383) (any_of HT_.out (by kernel_rfl)) ?_;refine ox_ (i:=14) (N:=some 28) (bz 19 32767) (any_of HT_.out (by kernel_rfl)) ?_;refine ox_ (i:=15) (N:=some 29) (bz 19 65535) (any_of HT_.out (by kernel_rfl)) ?_;refine ox_ (i:=16) (N:=some 30) (bz 19 131071) (any_of HT_.out (by kernel_rfl)) ?_;refine ox_ (i:=17) (N:=some 31) (bz 19 262143) (any_of HT_.out (by kernel_rfl)) ?_;refine pa_ 18 32 19 524287 HT_ ?_;refine done_ (done_of HT_.out (by kernel_rfl)) ?_
       try go_wp2
       go_roundg k1
       case measure => have := HK1.out; omega
       case rel => exact ⟨(x3_1), (wrap64 (x9_1 + 1)), Z48, Z48, H', ⟨by have := HK1.out; omega⟩, ⟨pk_ Ma.out⟩, ⟨pB_ HB.out⟩⟩
     ·rw [if_neg c6] at H
      exact absurd H (by simp)
    ·rw [if_neg c5] at H
     exact absurd H (by simp)
   ·rw [if_neg c4] at H
    have c4b0 : decide (x9_1 < (l0_4.length : Int)) = false := decide_eq_false c4; clear c4; obtain rfl := Option.some.inj H
    go_wp2
    go_ret; exact ⟨er_, pB_ HB.out⟩

/-! ### impl_Fair_isBusy: function 23 -/
def impl_Fair_isBusy.f (k : Nat) (a0_0 a0_1 a0_2 a0_3 : Int) (l0_4 : List (S70)) : Option (Bool) := (impl_Fair_pick.f k a0_0 a0_1 a0_2 a0_3 l0_4).bind fun Od => (some (decide (Od ≥ 0)))
set_option maxHeartbeats 8000000 in
set_option maxRecDepth 100000 in
theorem impl_Fair_isBusy.calls (k : Nat) (a0_0 a0_1 a0_2 a0_3 : Int) (A0_4 : Option Addr) (c0_4 : Nat) (l0_4 : List (S70)) (r : Bool) (w : World) (hr0_4 : Kd.C k70 w A0_4 l0_4.length l0_4) (hc0_4 : l0_4.length ≤ c0_4) (h : impl_Fair_isBusy.f k a0_0 a0_1 a0_2 a0_3 l0_4 = some r) :
  Calls Try.prog 23 #[.agg #[I L a0_0, I L a0_1, I L a0_2, I L a0_3, Y A0_4 l0_4.length c0_4]] w fun e w' => e = .returned (.bool r) ∧ Below w.heap.size w w' := by
 have hu34 := Try.underlying34
 have HR0_4 := D hr0_4
 have HC0_4 := D hc0_4
 clear hr0_4 hc0_4
 have HB := D (Below.refl w.heap.size w)
 have H : ((impl_Fair_pick.f k a0_0 a0_1 a0_2 a0_3 l0_4).bind fun t332 => (some (decide (t332 ≥ 0)))) = some r := h
 clear h
 obtain ⟨t332, A20, H⟩ := bs_.mp H
 (try dsimp only at H)
 have A2 := D A20
 clear A20
 obtain rfl := Option.some.inj H
 go_enter Try.func23, Try.ntmps23
 go_wp2_with (first|((with_reducible refine gate_dst (N:=1) rfl ?_);refine bx_ (N:=1) (cs:=#[I L a0_0,I L a0_1,I L a0_2,I L a0_3,Y A0_4 l0_4.length c0_4]) (t:=34) ?_;intro gb331 hg w3 hbox hb;have n_:=an_ (below_step (pB_ HB.out) hb)<|an_ (hbox)<|an_ (bg_ hg (pB_ HB.out):w.heap.size≤gb331)<|D (bg_ hg (pB_ HB.out):w.heap.size≤gb331);clear HB;obtain ⟨HB,BK331,GW331,GE331⟩:=n_;clear hb hbox hg;obtain ⟨hcz4_0,hcz4_1,hcz4_2,hcz4_3,hcz4_4,hfz4_0,hfz4_1,hfz4_2,hfz4_3,hfz4_4⟩:=cells5 BK331.out)|((with_reducible refine gate_callee (f:=43) rfl ?_);refine goesL_ (some 4) rfl rfl Try.func43 (by kernel_rfl) rfl #[.agg #[I L a0_0,I L a0_1,I L a0_2,I L a0_3,Y A0_4 l0_4.length c0_4]] rfl Z18 ?_;(with_reducible refine (impl_Fair_pick.calls k a0_0 a0_1 a0_2 a0_3 _ _ l0_4 t332 _ ?side1 ?side2 A2.out).mono ?_);(case side1=>exact pC_ (Kd.C_below HR0_4.out HB.out));(case side2=>exact HC0_4.out);rintro e w5 ⟨rfl,hb⟩;refine ⟨_,rfl,?_⟩;have n_:=an_ (blk_below (pk_ BK331.out) hb)<|D (below_step (pB_ HB.out) hb);clear BK331 HB;obtain ⟨BK331,HB⟩:=n_;(try clear hb)))
 go_ret
 exact ⟨er_, pB_ HB.out⟩

/-! ### impl_within: function 69 -/
def impl_within.f (a0 a1 a2 : Int) : Option (Bool) := if a0 ≥ a1 then (some (decide (a0 ≤ a2))) else (some false)
set_option maxHeartbeats 8000000 in
set_option maxRecDepth 100000 in
theorem impl_within.calls (a0 a1 a2 : Int) (r : Bool) (w : World) (h : impl_within.f a0 a1 a2 = some r) :
  Calls Try.prog 69 #[I L a0, I L a1, I L a2] w fun e w' => e = .returned (.bool r) ∧ Drawn0 w w' := by
 have H : (if a0 ≥ a1 then (some (decide (a0 ≤ a2))) else (some false)) = some r := h
 clear h
 by_cases c4 : a0 ≥ a1
 ·rw [if_pos c4] at H
  have c4b0 : decide (a1 ≤ a0) = true := decide_eq_true c4; clear c4; obtain rfl := Option.some.inj H; go_enter Try.func69, Try.ntmps69
  go_wp2
  go_ret; exact ⟨by first | rfl | (simp; done) | (simp [*]; done), by repeat (first | exact Drawn0.refl _ | apply Drawn0.step)⟩
 ·rw [if_neg c4] at H
  have c4b0 : decide (a1 ≤ a0) = false := decide_eq_false c4; clear c4; obtain rfl := Option.some.inj H; go_enter Try.func69, Try.ntmps69
  go_wp2
  go_ret; exact ⟨by first | rfl | (simp; done) | (simp [*]; done), by repeat (first | exact Drawn0.refl _ | apply Drawn0.step)⟩

/-! ### impl_Vec_isFrom: function 64 -/
def impl_Vec_isFrom.f (a0_0 a0_1 a0_2 a1 a2 : Int) : Option (Bool) := (impl_within.f a0_0 a1 a2).bind fun t334 => (if t334 = true then ((impl_within.f a0_1 a1 a2).bind fun t335 => (if t335 = true then ((impl_within.f a0_2 a1 a2).bind fun t336 => (some t336)) else (some false))) else (some false))
set_option maxHeartbeats 8000000 in
set_option maxRecDepth 100000 in
theorem impl_Vec_isFrom.calls (a0_0 a0_1 a0_2 a1 a2 : Int) (r : Bool) (w : World) (h : impl_Vec_isFrom.f a0_0 a0_1 a0_2 a1 a2 = some r) :
  Calls Try.prog 64 #[.agg #[I L a0_0, I L a0_1, I L a0_2], I L a1, I L a2] w fun e w' => e = .returned (.bool r) ∧ Below w.heap.size w w' := by
 have hu31 := Try.underlying31
 have HB := D (Below.refl w.heap.size w)
 have H:((impl_within.f a0_0 a1 a2).bind fun t334=>(if t334=true then ((impl_within.f a0_1 a1 a2).bind fun t335=>(if t335=true then ((impl_within.f a0_2 a1 a2).bind fun t336=>(some t336)) else (some false))) else (some false)))=some r:=h
 clear h
 obtain ⟨t334, A40, H⟩ := bs_.mp H
 (try dsimp only at H)
 have A4 := D A40
 clear A40
 by_cases c5 : t334 = true
 ·subst c5
  rw [if_pos rfl] at H; obtain ⟨t335, A60, H⟩ := bs_.mp H; (try dsimp only at H); have A6 := D A60; clear A60
  by_cases c7 : t335 = true
  ·subst c7
   rw [if_pos rfl] at H;obtain ⟨t336,A80,H⟩:=bs_.mp H;(try dsimp only at H);have A8:=D A80;clear A80;obtain rfl:=Option.some.inj H;go_enter Try.func64,Try.ntmps64
   go_wp2_with (first|((with_reducible refine gate_dst (N:=3) rfl ?_);refine bx_ (N:=3) (cs:=#[I L a0_0,I L a0_1,I L a0_2]) (t:=31) ?_;intro gb333 hg w9 hbox hb;have n_:=an_ (below_step (pB_ HB.out) hb)<|an_ (hbox)<|an_ (bg_ hg (pB_ HB.out):w.heap.size≤gb333)<|D (bg_ hg (pB_ HB.out):w.heap.size≤gb333);clear HB;obtain ⟨HB,BK333,GW333,GE333⟩:=n_;clear hb hbox hg;obtain ⟨hcz10_0,hcz10_1,hcz10_2,hfz10_0,hfz10_1,hfz10_2⟩:=cells3 BK333.out)|((with_reducible refine gate_callee (f:=69) rfl ?_);refine goesL_ (some 11) rfl rfl Try.func69 (by kernel_rfl) rfl #[I L a0_0,I L a1,I L a2] rfl Z18 ?_;(with_reducible refine (impl_within.calls a0_0 a1 a2 true _ A4.out).mono ?_);rintro e w' ⟨rfl,⟨nd,rfl⟩⟩;refine ⟨_,rfl,?_⟩)|(go_at_call 69;(with_reducible refine (impl_within.calls a0_1 a1 a2 true _ A6.out).mono ?_);rintro e w' ⟨rfl,⟨nd,rfl⟩⟩)|(go_at_call 69;(with_reducible refine (impl_within.calls a0_2 a1 a2 t336 _ A8.out).mono ?_);rintro e w' ⟨rfl,⟨nd,rfl⟩⟩))
   go_ret; exact ⟨er_, pB_ HB.out⟩
  ·replace c7 := Bool.eq_false_iff.mpr c7
   subst c7; rw [if_neg (show ¬ (false = true) by decide)] at H; obtain rfl := Option.some.inj H; go_enter Try.func64, Try.ntmps64
   go_wp2_with (first|((with_reducible refine gate_dst (N:=3) rfl ?_);refine bx_ (N:=3) (cs:=#[I L a0_0,I L a0_1,I L a0_2]) (t:=31) ?_;intro gb333 hg w11 hbox hb;have n_:=an_ (below_step (pB_ HB.out) hb)<|an_ (hbox)<|an_ (bg_ hg (pB_ HB.out):w.heap.size≤gb333)<|D (bg_ hg (pB_ HB.out):w.heap.size≤gb333);clear HB;obtain ⟨HB,BK333,GW333,GE333⟩:=n_;clear hb hbox hg;obtain ⟨hcz12_0,hcz12_1,hcz12_2,hfz12_0,hfz12_1,hfz12_2⟩:=cells3 BK333.out)|((with_reducible refine gate_callee (f:=69) rfl ?_);refine goesL_ (some 11) rfl rfl Try.func69 (by kernel_rfl) rfl #[I L a0_0,I L a1,I L a2] rfl Z18 ?_;(with_reducible refine (impl_within.calls a0_0 a1 a2 true _ A4.out).mono ?_);rintro e w' ⟨rfl,⟨nd,rfl⟩⟩;refine ⟨_,rfl,?_⟩)|(go_at_call 69;(with_reducible refine (impl_within.calls a0_1 a1 a2 false _ A6.out).mono ?_);rintro e w' ⟨rfl,⟨nd,rfl⟩⟩))
   go_ret; exact ⟨er_, pB_ HB.out⟩
 ·replace c5 := Bool.eq_false_iff.mpr c5
  subst c5; rw [if_neg (show ¬ (false = true) by decide)] at H; obtain rfl := Option.some.inj H; go_enter Try.func64, Try.ntmps64
  go_wp2_with (first|((with_reducible refine gate_dst (N:=3) rfl ?_);refine bx_ (N:=3) (cs:=#[I L a0_0,I L a0_1,I L a0_2]) (t:=31) ?_;intro gb333 hg w13 hbox hb;have n_:=an_ (below_step (pB_ HB.out) hb)<|an_ (hbox)<|an_ (bg_ hg (pB_ HB.out):w.heap.size≤gb333)<|D (bg_ hg (pB_ HB.out):w.heap.size≤gb333);clear HB;obtain ⟨HB,BK333,GW333,GE333⟩:=n_;clear hb hbox hg;obtain ⟨hcz14_0,hcz14_1,hcz14_2,hfz14_0,hfz14_1,hfz14_2⟩:=cells3 BK333.out)|((with_reducible refine gate_callee (f:=69) rfl ?_);refine goesL_ (some 11) rfl rfl Try.func69 (by kernel_rfl) rfl #[I L a0_0,I L a1,I L a2] rfl Z18 ?_;(with_reducible refine (impl_within.calls a0_0 a1 a2 false _ A4.out).mono ?_);rintro e w' ⟨rfl,⟨nd,rfl⟩⟩;refine ⟨_,rfl,?_⟩))
  go_ret; exact ⟨er_, pB_ HB.out⟩

/-! ### impl_TagOk: function 62 -/
def impl_TagOk.f (a0_0 a0_1 a0_2 : Int) : Option (Bool) := (impl_Vec_isFrom.f a0_0 a0_1 a0_2 0 1000000000000).bind fun t338 => (some t338)
set_option maxHeartbeats 8000000 in
set_option maxRecDepth 100000 in
theorem impl_TagOk.calls (a0_0 a0_1 a0_2 : Int) (r : Bool) (w : World) (h : impl_TagOk.f a0_0 a0_1 a0_2 = some r) :
  Calls Try.prog 62 #[.agg #[I L a0_0, I L a0_1, I L a0_2]] w fun e w' => e = .returned (.bool r) ∧ Below w.heap.size w w' := by
 have hu31 := Try.underlying31
 have HB := D (Below.refl w.heap.size w)
 have H : ((impl_Vec_isFrom.f a0_0 a0_1 a0_2 0 1000000000000).bind fun t338 => (some t338)) = some r := h
 clear h
 obtain ⟨t338, A20, H⟩ := bs_.mp H
 (try dsimp only at H)
 have A2 := D A20
 clear A20
 obtain rfl := Option.some.inj H
 go_enter Try.func62, Try.ntmps62
 go_wp2_with (first|((with_reducible refine gate_dst (N:=1) rfl ?_);refine bx_ (N:=1) (cs:=#[I L a0_0,I L a0_1,I L a0_2]) (t:=31) ?_;intro gb337 hg w3 hbox hb;have n_:=an_ (below_step (pB_ HB.out) hb)<|an_ (hbox)<|an_ (bg_ hg (pB_ HB.out):w.heap.size≤gb337)<|D (bg_ hg (pB_ HB.out):w.heap.size≤gb337);clear HB;obtain ⟨HB,BK337,GW337,GE337⟩:=n_;clear hb hbox hg;obtain ⟨hcz4_0,hcz4_1,hcz4_2,hfz4_0,hfz4_1,hfz4_2⟩:=cells3 BK337.out)|((with_reducible refine gate_callee (f:=64) rfl ?_);refine goesL_ (some 4) rfl rfl Try.func64 (by kernel_rfl) rfl #[.agg #[I L a0_0,I L a0_1,I L a0_2],I L 0,I L 1000000000000] rfl Z18 ?_;(with_reducible refine (impl_Vec_isFrom.calls a0_0 a0_1 a0_2 0 1000000000000 t338 _ A2.out).mono ?_);rintro e w5 ⟨rfl,hb⟩;refine ⟨_,rfl,?_⟩;have n_:=an_ (blk_below (pk_ BK337.out) hb)<|D (below_step (pB_ HB.out) hb);clear BK337 HB;obtain ⟨BK337,HB⟩:=n_;(try clear hb)))
 go_ret
 exact ⟨er_, pB_ HB.out⟩

/-! ### impl_isDelta: function 63 -/
def impl_isDelta.f (a0 : Int) : Option (Bool) := (impl_within.f a0 0 10000000).bind fun t339 => (some t339)
set_option maxHeartbeats 8000000 in
set_option maxRecDepth 100000 in
theorem impl_isDelta.calls (a0 : Int) (r : Bool) (w : World) (h : impl_isDelta.f a0 = some r) :
  Calls Try.prog 63 #[I L a0] w fun e w' => e = .returned (.bool r) ∧ Drawn0 w w' := by
 have H : ((impl_within.f a0 0 10000000).bind fun t339 => (some t339)) = some r := h
 clear h
 obtain ⟨t339, A20, H⟩ := bs_.mp H
 (try dsimp only at H)
 have A2 := D A20
 clear A20
 obtain rfl := Option.some.inj H
 go_enter Try.func63, Try.ntmps63
 go_wp2_with (first|((with_reducible refine gate_callee (f:=69) rfl ?_);refine goesL_ (some 4) rfl rfl Try.func69 (by kernel_rfl) rfl #[I L a0,I L 0,I L 10000000] rfl Z18 ?_;(with_reducible refine (impl_within.calls a0 0 10000000 t339 _ A2.out).mono ?_);rintro e w' ⟨rfl,⟨nd,rfl⟩⟩;refine ⟨_,rfl,?_⟩))
 go_ret
 exact ⟨by first | rfl | (simp; done) | (simp [*]; done), by repeat (first | exact Drawn0.refl _ | apply Drawn0.step)⟩

/-! ### impl_Narrow: function 55 -/
def impl_Narrow.f (a0_0 a0_1 a0_2 a1 : Int) : Option (Bool) := (impl_TagOk.f a0_0 a0_1 a0_2).bind fun t341 => (if t341 = true then ((impl_isDelta.f a1).bind fun t342 => (if t342 = true then ((impl_VecTop.f a0_0 a0_1 a0_2).bind fun t343 => ((impl_Vec_isFrom.f a0_0 a0_1 a0_2 (wrap64 (t343 - a1)) 1000000000000).bind fun t344 => (some t344))) else (some false))) else (some false))
def impl_Narrow.T1 : Bool × List (List Nat × List Nat) := (true, [([], []), ([0], [0]), ([1, 1], [1]), ([2], [2]), ([3, 2, 2], [2, 3]), ([2, 4], [2, 4]), ([5, 4], [5]), ([6], [6]), ([6], [6]), ([8, 6, 6], [6, 8]), ([6], [6]), ([9, 10, 6], [6, 9, 10]), ([7, 11, 9, 6], [6, 7, 11]), ([6, 12], [6, 12]), ([13, 12, 0, 1, 2, 3, 4, 5, 6, 7, 8, 9, 10, 11, 12, 13], [13])])
def impl_Narrow.B1 : List Nat := [0, 1, 3, 7, 15, 31, 63, 127, 127, 383, 127, 1919, 4095, 8191, 16383]
theorem impl_Narrow.tab1 : rtab .any (opsOf Try.f55 1) = impl_Narrow.T1 := by kernel_rfl
theorem impl_Narrow.bits1 : waitsOk impl_Narrow.T1.2 impl_Narrow.B1 = true := by kernel_rfl
set_option maxHeartbeats 8000000 in
set_option maxRecDepth 100000 in
theorem impl_Narrow.calls (a0_0 a0_1 a0_2 a1 : Int) (r : Bool) (w : World) (h : impl_Narrow.f a0_0 a0_1 a0_2 a1 = some r) :
  Calls Try.prog 55 #[.agg #[I L a0_0, I L a0_1, I L a0_2], I L a1] w fun e w' => e = .returned (.bool r) ∧ Below w.heap.size w w' := by
 have hu31 := Try.underlying31
 have HB := D (Below.refl w.heap.size w)
 have H:((impl_TagOk.f a0_0 a0_1 a0_2).bind fun t341=>(if t341=true then ((impl_isDelta.f a1).bind fun t342=>(if t342=true then ((impl_VecTop.f a0_0 a0_1 a0_2).bind fun t343=>((impl_Vec_isFrom.f a0_0 a0_1 a0_2 (wrap64 (t343 - a1)) 1000000000000).bind fun t344=>(some t344))) else (some false))) else (some false)))=some r:=h
 clear h
 obtain ⟨t341, A30, H⟩ := bs_.mp H
 (try dsimp only at H)
 have A3 := D A30
 clear A30
 by_cases c4 : t341 = true
 ·subst c4
  rw [if_pos rfl] at H; obtain ⟨t342, A50, H⟩ := bs_.mp H; (try dsimp only at H); have A5 := D A50; clear A50
  by_cases c6 : t342 = true
  ·subst c6
   rw [if_pos rfl] at H;obtain ⟨t343,A70,H⟩:=bs_.mp H;(try dsimp only at H);have A7:=D A70;clear A70;obtain ⟨t344,A80,H⟩:=bs_.mp H;(try dsimp only at H);have A8:=D A80;clear A80;obtain rfl:=Option.some.inj H;go_enter Try.func55,Try.ntmps55
   try go_wp2_with (first|((with_reducible refine gate_dst (N:=2) rfl ?_);refine bx_ (N:=2) (cs:=#[I L a0_0,I L a0_1,I L a0_2]) (t:=31) ?_;intro gb340 hg w9 hbox hb;have n_:=an_ (below_step (pB_ HB.out) hb)<|an_ (hbox)<|an_ (bg_ hg (pB_ HB.out):w.heap.size≤gb340)<|D (bg_ hg (pB_ HB.out):w.heap.size≤gb340);clear HB;obtain ⟨HB,BK340,GW340,GE340⟩:=n_;clear hb hbox hg))
   have n_ := an_ (blk_drew BK340.out) <| D (below_drew1 HB.out)
   clear BK340 HB;obtain ⟨BK340,HB⟩:=n_;refine start_ (n:=15) (S:=fun w'=>w'.cell? ⟨gb340,0,none⟩=some (I L a0_0)∧w'.cell? ⟨gb340,1,none⟩=some (I L a0_1)∧w'.cell? ⟨gb340,2,none⟩=some (I L a0_2)) (ds:=[]) (bz 15 0) (by kernel_rfl) rfl (by kernel_rfl) ⟨bc_ BK340.out 0,bc_ BK340.out 1,bc_ BK340.out 2⟩ (fun hHeld=>?_);refine with_tabW impl_Narrow.tab1 impl_Narrow.bits1 (fun HT_ HW_=>?_);generalize w9.drew=w10 at BK340 HB hHeld ⊢;refine ta_ 0 5 15 1 HT_ HW_ rfl rfl hHeld Z46 ?_;refine oa_ 1 6 15 3 HT_ (fun K hK=>?_);refine goes_ Try.func62 (by kernel_rfl) rfl #[.agg #[I L a0_0,I L a0_1,I L a0_2]] (by rfl) rfl rfl Z18 ?_;with_reducible refine (impl_TagOk.calls a0_0 a0_1 a0_2 true _ A3.out).mono ?_
   rintro e w11 ⟨rfl, hb⟩; refine ⟨_, rfl, ?_⟩
   have n_ := an_ (blk_below (pk_ BK340.out) hb) <| D (below_step (pB_ HB.out) hb)
   clear BK340 HB;obtain ⟨BK340,HB⟩:=n_;refine hK.out _ _ ⟨bc_ BK340.out 0,bc_ BK340.out 1,bc_ BK340.out 2⟩ (fun hHeld=>?_);clear hK K;refine nx_ (N:=some 6) ?_;refine pa_ 2 7 15 7 HT_ ?_;refine pa_ 3 8 15 15 HT_ ?_;refine oa_ 4 9 15 31 HT_ (fun K hK=>?_);refine goes_ Try.func63 (by kernel_rfl) rfl #[I L a1] (by rfl) rfl rfl Z18 ?_;with_reducible refine (impl_isDelta.calls a1 true _ A5.out).mono ?_
   rintro e w' ⟨rfl,⟨nd,rfl⟩⟩;refine ⟨_,rfl,?_⟩;refine hK.out _ _ ⟨bc_ BK340.out 0,bc_ BK340.out 1,bc_ BK340.out 2⟩ (fun hHeld=>?_);clear hK K;refine nx_ (N:=some 9) ?_;refine pa_ 5 10 15 63 HT_ ?_;refine pa_ 6 11 15 127 HT_ ?_;refine pa_ 10 15 15 1151 HT_ ?_;refine ta_ 7 12 15 1279 HT_ HW_ rfl rfl hHeld Z46 ?_;refine ta_ 8 13 15 1535 HT_ HW_ rfl rfl hHeld Z46 ?_;refine oa_ 9 14 15 2047 HT_ (fun K hK=>?_);refine goes_ Try.func56 (by kernel_rfl) rfl #[.agg #[I L a0_0,I L a0_1,I L a0_2]] (by rfl) rfl rfl Z18 ?_;with_reducible refine (impl_VecTop.calls a0_0 a0_1 a0_2 t343 _ A7.out).mono ?_
   rintro e w12 ⟨rfl, hb⟩; refine ⟨_, rfl, ?_⟩
   have n_ := an_ (blk_below (pk_ BK340.out) hb) <| D (below_step (pB_ HB.out) hb)
   clear BK340 HB;obtain ⟨BK340,HB⟩:=n_;refine hK.out _ _ ⟨bc_ BK340.out 0,bc_ BK340.out 1,bc_ BK340.out 2⟩ (fun hHeld=>?_);clear hK K;refine nx_ (N:=some 14) ?_;refine pa_ 11 16 15 4095 HT_ ?_;refine oa_ 12 17 15 8191 HT_ (fun K hK=>?_);refine goes_ Try.func64 (by kernel_rfl) rfl #[.agg #[I L a0_0,I L a0_1,I L a0_2],I L (wrap64 (t343 - a1)),I L 1000000000000] (by rfl) rfl rfl Z18 ?_;with_reducible refine (impl_Vec_isFrom.calls a0_0 a0_1 a0_2 (wrap64 (t343 - a1)) 1000000000000 t344 _ A8.out).mono ?_
   rintro e w13 ⟨rfl, hb⟩; refine ⟨_, rfl, ?_⟩
   have n_ := an_ (blk_below (pk_ BK340.out) hb) <| D (below_step (pB_ HB.out) hb)
   clear BK340 HB;obtain ⟨BK340,HB⟩:=n_;refine hK.out _ _ ⟨bc_ BK340.out 0,bc_ BK340.out 1,bc_ BK340.out 2⟩ (fun hHeld=>?_);clear hK K;refine nx_ (N:=some 17) ?_;refine pa_ 13 18 15 16383 HT_ ?_;refine pa_ 14 4 15 32767 HT_ ?_;refine done_ (done_of HT_.out (by kernel_rfl)) ?_
   try go_wp2
   go_ret; exact ⟨er_, pB_ HB.out⟩
  ·replace c6 := Bool.eq_false_iff.mpr c6
   subst c6; rw [if_neg (show ¬ (false = true) by decide)] at H; obtain rfl := Option.some.inj H; go_enter Try.func55, Try.ntmps55
   try go_wp2_with (first|((with_reducible refine gate_dst (N:=2) rfl ?_);refine bx_ (N:=2) (cs:=#[I L a0_0,I L a0_1,I L a0_2]) (t:=31) ?_;intro gb340 hg w14 hbox hb;have n_:=an_ (below_step (pB_ HB.out) hb)<|an_ (hbox)<|an_ (bg_ hg (pB_ HB.out):w.heap.size≤gb340)<|D (bg_ hg (pB_ HB.out):w.heap.size≤gb340);clear HB;obtain ⟨HB,BK340,GW340,GE340⟩:=n_;clear hb hbox hg))
   have n_ := an_ (blk_drew BK340.out) <| D (below_drew1 HB.out)
   clear BK340 HB;obtain ⟨BK340,HB⟩:=n_;refine start_ (n:=15) (S:=fun w'=>w'.cell? ⟨gb340,0,none⟩=some (I L a0_0)∧w'.cell? ⟨gb340,1,none⟩=some (I L a0_1)∧w'.cell? ⟨gb340,2,none⟩=some (I L a0_2)) (ds:=[]) (bz 15 0) (by kernel_rfl) rfl (by kernel_rfl) ⟨bc_ BK340.out 0,bc_ BK340.out 1,bc_ BK340.out 2⟩ (fun hHeld=>?_);refine with_tabW impl_Narrow.tab1 impl_Narrow.bits1 (fun HT_ HW_=>?_);generalize w14.drew=w15 at BK340 HB hHeld ⊢;refine ta_ 0 5 15 1 HT_ HW_ rfl rfl hHeld Z46 ?_;refine oa_ 1 6 15 3 HT_ (fun K hK=>?_);refine goes_ Try.func62 (by kernel_rfl) rfl #[.agg #[I L a0_0,I L a0_1,I L a0_2]] (by rfl) rfl rfl Z18 ?_;with_reducible refine (impl_TagOk.calls a0_0 a0_1 a0_2 true _ A3.out).mono ?_
   rintro e w16 ⟨rfl, hb⟩; refine ⟨_, rfl, ?_⟩
   have n_ := an_ (blk_below (pk_ BK340.out) hb) <| D (below_step (pB_ HB.out) hb)
   clear BK340 HB;obtain ⟨BK340,HB⟩:=n_;refine hK.out _ _ ⟨bc_ BK340.out 0,bc_ BK340.out 1,bc_ BK340.out 2⟩ (fun hHeld=>?_);clear hK K;refine nx_ (N:=some 6) ?_;refine pa_ 2 7 15 7 HT_ ?_;refine pa_ 3 8 15 15 HT_ ?_;refine oa_ 4 9 15 31 HT_ (fun K hK=>?_);refine goes_ Try.func63 (by kernel_rfl) rfl #[I L a1] (by rfl) rfl rfl Z18 ?_;with_reducible refine (impl_isDelta.calls a1 false _ A5.out).mono ?_
   rintro e w' ⟨rfl,⟨nd,rfl⟩⟩;refine ⟨_,rfl,?_⟩;refine hK.out _ _ ⟨bc_ BK340.out 0,bc_ BK340.out 1,bc_ BK340.out 2⟩ (fun hHeld=>?_);clear hK K;refine nx_ (N:=some 9) ?_;refine pa_ 5 10 15 63 HT_ ?_;refine pa_ 6 11 15 127 HT_ ?_;refine ox_ (i:=7) (N:=some 12) (bz 15 255) (any_of HT_.out (by kernel_rfl)) ?_;refine ox_ (i:=8) (N:=some 13) (bz 15 511) (any_of HT_.out (by kernel_rfl)) ?_;refine ox_ (i:=9) (N:=some 14) (bz 15 1023) (any_of HT_.out (by kernel_rfl)) ?_;refine ox_ (i:=10) (N:=some 15) (bz 15 2047) (any_of HT_.out (by kernel_rfl)) ?_;refine ox_ (i:=11) (N:=some 16) (bz 15 4095) (any_of HT_.out (by kernel_rfl)) ?_;refine ox_ (i:=12) (N:=some 17) (bz 15 8191) (any_of HT_.out (by kernel_rfl)) ?_;refine pa_ 13 18 15 16383 HT_ ?_;refine pa_ 14 4 15 32767 HT_ ?_;refine done_ (done_of HT_.out (by kernel_rfl)) ?_
   try go_wp2
   go_ret; exact ⟨er_, pB_ HB.out⟩
 ·replace c4 := Bool.eq_false_iff.mpr c4
  subst c4; rw [if_neg (show ¬ (false = true) by decide)] at H; obtain rfl := Option.some.inj H; go_enter Try.func55, Try.ntmps55
  try go_wp2_with (first|((with_reducible refine gate_dst (N:=2) rfl ?_);refine bx_ (N:=2) (cs:=#[I L a0_0,I L a0_1,I L a0_2]) (t:=31) ?_;intro gb340 hg w17 hbox hb;have n_:=an_ (below_step (pB_ HB.out) hb)<|an_ (hbox)<|an_ (bg_ hg (pB_ HB.out):w.heap.size≤gb340)<|D (bg_ hg (pB_ HB.out):w.heap.size≤gb340);clear HB;obtain ⟨HB,BK340,GW340,GE340⟩:=n_;clear hb hbox hg))
  have n_ := an_ (blk_drew BK340.out) <| D (below_drew1 HB.out)
  clear BK340 HB;obtain ⟨BK340,HB⟩:=n_;refine start_ (n:=15) (S:=fun w'=>w'.cell? ⟨gb340,0,none⟩=some (I L a0_0)∧w'.cell? ⟨gb340,1,none⟩=some (I L a0_1)∧w'.cell? ⟨gb340,2,none⟩=some (I L a0_2)) (ds:=[]) (bz 15 0) (by kernel_rfl) rfl (by kernel_rfl) ⟨bc_ BK340.out 0,bc_ BK340.out 1,bc_ BK340.out 2⟩ (fun hHeld=>?_);refine with_tabW impl_Narrow.tab1 impl_Narrow.bits1 (fun HT_ HW_=>?_);generalize w17.drew=w18 at BK340 HB hHeld ⊢;refine ta_ 0 5 15 1 HT_ HW_ rfl rfl hHeld Z46 ?_;refine oa_ 1 6 15 3 HT_ (fun K hK=>?_);refine goes_ Try.func62 (by kernel_rfl) rfl #[.agg #[I L a0_0,I L a0_1,I L a0_2]] (by rfl) rfl rfl Z18 ?_;with_reducible refine (impl_TagOk.calls a0_0 a0_1 a0_2 false _ A3.out).mono ?_
  rintro e w19 ⟨rfl, hb⟩; refine ⟨_, rfl, ?_⟩
  have n_ := an_ (blk_below (pk_ BK340.out) hb) <| D (below_step (pB_ HB.out) hb)
  clear BK340 HB;obtain ⟨BK340,HB⟩:=n_;refine hK.out _ _ ⟨bc_ BK340.out 0,bc_ BK340.out 1,bc_ BK340.out 2⟩ (fun hHeld=>?_);clear hK K;refine nx_ (N:=some 6) ?_;refine pa_ 2 7 15 7 HT_ ?_;refine ox_ (i:=3) (N:=some 8) (bz 15 15) (any_of HT_.out (by kernel_rfl)) ?_;refine ox_ (i:=4) (N:=some 9) (bz 15 31) (any_of HT_.out (by kernel_rfl)) ?_;refine pa_ 5 10 15 63 HT_ ?_;refine pa_ 6 11 15 127 HT_ ?_;refine ox_ (i:=7) (N:=some 12) (bz 15 255) (any_of HT_.out (by kernel_rfl)) ?_;refine ox_ (i:=8) (N:=some 13) (bz 15 511) (any_of HT_.out (by kernel_rfl)) ?_;refine ox_ (i:=9) (N:=some 14) (bz 15 1023) (any_of HT_.out (by kernel_rfl)) ?_;refine ox_ (i:=10) (N:=some 15) (bz 15 2047) (any_of HT_.out (by kernel_rfl)) ?_;refine ox_ (i:=11) (N:=some 16) (bz 15 4095) (any_of HT_.out (by kernel_rfl)) ?_;refine ox_ (i:=12) (N:=some 17) (bz 15 8191) (any_of HT_.out (by kernel_rfl)) ?_;refine pa_ 13 18 15 16383 HT_ ?_;refine pa_ 14 4 15 32767 HT_ ?_;refine done_ (done_of HT_.out (by kernel_rfl)) ?_
  try go_wp2
  go_ret; exact ⟨er_, pB_ HB.out⟩

/-! ### impl_isFlow: function 65 -/
def impl_isFlow.f (a0 : Int) : Option (Bool) := (impl_within.f a0 0 9999).bind fun t345 => (some t345)
set_option maxHeartbeats 8000000 in
set_option maxRecDepth 100000 in
theorem impl_isFlow.calls (a0 : Int) (r : Bool) (w : World) (h : impl_isFlow.f a0 = some r) :
  Calls Try.prog 65 #[I L a0] w fun e w' => e = .returned (.bool r) ∧ Drawn0 w w' := by
 have H : ((impl_within.f a0 0 9999).bind fun t345 => (some t345)) = some r := h
 clear h
 obtain ⟨t345, A20, H⟩ := bs_.mp H
 (try dsimp only at H)
 have A2 := D A20
 clear A20
 obtain rfl := Option.some.inj H
 go_enter Try.func65, Try.ntmps65
 go_wp2_with (first|((with_reducible refine gate_callee (f:=69) rfl ?_);refine goesL_ (some 4) rfl rfl Try.func69 (by kernel_rfl) rfl #[I L a0,I L 0,I L 9999] rfl Z18 ?_;(with_reducible refine (impl_within.calls a0 0 9999 t345 _ A2.out).mono ?_);rintro e w' ⟨rfl,⟨nd,rfl⟩⟩;refine ⟨_,rfl,?_⟩))
 go_ret
 exact ⟨by first | rfl | (simp; done) | (simp [*]; done), by repeat (first | exact Drawn0.refl _ | apply Drawn0.step)⟩

/-! ### impl_isWeight: function 66 -/
def impl_isWeight.f (a0 : Int) : Option (Bool) := (impl_within.f a0 1 10).bind fun t346 => (some t346)
set_option maxHeartbeats 8000000 in
set_option maxRecDepth 100000 in
theorem impl_isWeight.calls (a0 : Int) (r : Bool) (w : World) (h : impl_isWeight.f a0 = some r) :
  Calls Try.prog 66 #[I L a0] w fun e w' => e = .returned (.bool r) ∧ Drawn0 w w' := by
 have H : ((impl_within.f a0 1 10).bind fun t346 => (some t346)) = some r := h
 clear h
 obtain ⟨t346, A20, H⟩ := bs_.mp H
 (try dsimp only at H)
 have A2 := D A20
 clear A20
 obtain rfl := Option.some.inj H
 go_enter Try.func66, Try.ntmps66
 go_wp2_with (first|((with_reducible refine gate_callee (f:=69) rfl ?_);refine goesL_ (some 4) rfl rfl Try.func69 (by kernel_rfl) rfl #[I L a0,I L 1,I L 10] rfl Z18 ?_;(with_reducible refine (impl_within.calls a0 1 10 t346 _ A2.out).mono ?_);rintro e w' ⟨rfl,⟨nd,rfl⟩⟩;refine ⟨_,rfl,?_⟩))
 go_ret
 exact ⟨by first | rfl | (simp; done) | (simp [*]; done), by repeat (first | exact Drawn0.refl _ | apply Drawn0.step)⟩

/-! ### impl_Stride: function 67 -/
def impl_Stride.f (a0 : Int) : Option (Int) := (impl_isWeight.f a0).bind fun t347 => (if t347 = true then (if a0 = 0 then (none) else (some (wrap64 (Int.tdiv (2520 : Int) a0)))) else (some 0))
set_option maxHeartbeats 8000000 in
set_option maxRecDepth 100000 in
theorem impl_Stride.calls (a0 r : Int) (w : World) (h : impl_Stride.f a0 = some r) :
  Calls Try.prog 67 #[I L a0] w fun e w' => e = .returned (I L r) ∧ Drawn0 w w' := by
 have H : ((impl_isWeight.f a0).bind fun t347 => (if t347 = true then (if a0 = 0 then (none) else (some (wrap64 (Int.tdiv (2520 : Int) a0)))) else (some 0))) = some r := h
 clear h
 obtain ⟨t347, A20, H⟩ := bs_.mp H
 (try dsimp only at H)
 have A2 := D A20
 clear A20
 have HU3 := D H
 clear H
 go_enter Try.func67, Try.ntmps67
 go_upto_if 5 with (first|((with_reducible refine gate_callee (f:=66) rfl ?_);refine goesL_ (some 4) rfl rfl Try.func66 (by kernel_rfl) rfl #[I L a0] rfl Z18 ?_;(with_reducible refine (impl_isWeight.calls a0 t347 _ A2.out).mono ?_);rintro e w' ⟨rfl,⟨nd,rfl⟩⟩;refine ⟨_,rfl,?_⟩))
 have H := HU3.out
 clear HU3
 by_cases c4 : t347 = true
 ·subst c4
  rw [if_pos rfl] at H
  by_cases c5 : a0 = 0
  ·rw [if_pos c5] at H
   exact absurd H (by simp)
  ·rw [if_neg c5] at H
   have c5b0:(a0 == 0)=false:=beq_eq_false_iff_ne.mpr c5;have c5b1:(a0 != 0)=true:=bne_iff_ne.mpr c5;refine rw_ c5b0 ?_;obtain rfl:=Option.some.inj H
   go_wp2
   go_ret; exact ⟨by first | rfl | (simp; done) | (simp [*]; done), by repeat (first | exact Drawn0.refl _ | apply Drawn0.step)⟩
 ·replace c4 := Bool.eq_false_iff.mpr c4
  subst c4; rw [if_neg (show ¬ (false = true) by decide)] at H; obtain rfl := Option.some.inj H
  go_wp2
  go_ret; exact ⟨by first | rfl | (simp; done) | (simp [*]; done), by repeat (first | exact Drawn0.refl _ | apply Drawn0.step)⟩

end Go.Proofs.Ytolphjnajopknab.PFnExactTreeRest
