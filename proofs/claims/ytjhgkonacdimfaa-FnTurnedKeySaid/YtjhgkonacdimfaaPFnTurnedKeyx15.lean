-- by a program of this session's, over the kit's words
import Derived.Test.YtjhgkonacdimfaaPZFnTurnedKey
import Derived.Test.YtjhgkonacdimfaaPFnTurnedKeyx0
import Derived.Test.YtjhgkonacdimfaaPFnTurnedKeyx13
import Derived.Test.YtjhgkonacdimfaaPFnTurnedKeyx14
namespace Go.Proofs.Ytjhgkonacdimfaa.PFnTurnedKey
open Go.RowKit Go.Proofs.YtjhgkonacdimfaaW.PrintWords Go.Proofs.YtjhgkonacdimfaaW.PrintLast Go.Proofs.YtjhgkonacdimfaaW.PrintMore Go.Proofs.YtjhgkonacdimfaaV Go.Proofs.Ytjhgkonacdimfaa.ZFnTurnedKey
open Go.Value renaming int → I, slice → Y
open Go.IntKind renaming i64 → L
open Aside0 renaming mk → D
open Option renaming bind_eq_some_iff → bs_
attribute [local go_sem] max2_int min2_int max_two min_two max_three min_three max_four min_four   -- for this text's walks alone
set_option linter.unusedVariables false
set_option linter.unusedSimpArgs false

/-! ### impl_AddrOf: function 55 -/
def impl_AddrOf.f (k : Nat) (l0 : List Int) : Option (Int × Int × Int × Int × Int × Bool) := if (l0.length : Int) = 4 then ((impl_beOf.f k l0).bind fun t765 => (some (4, 0, 0, 0, t765, true))) else (if (l0.length : Int) = 16 then (if 4 ≤ (l0.length : Int) then ((impl_beOf.f k (l0.take 4)).bind fun t767 => (if 4 ≤ 8 then (if 8 ≤ (l0.length : Int) then ((impl_beOf.f k ((l0.take 8).drop 4)).bind fun t769 => (if 8 ≤ 12 then (if 12 ≤ (l0.length : Int) then ((impl_beOf.f k ((l0.take 12).drop 8)).bind fun t771 => ((impl_beOf.f k (l0.drop 12)).bind fun t773 => (some (6, t767, t769, t771, t773, true)))) else (none)) else (none))) else (none)) else (none))) else (none)) else (some (0, 0, 0, 0, 0, false)))
def impl_AddrOf.T5 : Bool × List (List Nat × List Nat) := (true, [([], []), ([0], [0]), ([1], [1]), ([], []), ([3], [3]), ([4, 2], [4]), ([], []), ([6], [6]), ([7, 5], [7]), ([], []), ([9], [9]), ([10, 8], [10]), ([2, 5, 8, 11], [2, 5, 8, 11]), ([12, 11, 0, 1, 2, 3, 4, 5, 6, 7, 8, 9, 10, 11, 12], [12]), ([13, 0, 1, 2, 3, 4, 5, 6, 7, 8, 9, 10, 11, 12, 13], [])])
def impl_AddrOf.B5 : List Nat := [0, 1, 3, 0, 8, 31, 0, 64, 255, 0, 512, 2047, 4095, 8191, 16383]
theorem impl_AddrOf.tab5 : rtab .any (opsOf Try.f55 5) = impl_AddrOf.T5 := by kernel_rfl
theorem impl_AddrOf.bits5 : waitsOk impl_AddrOf.T5.2 impl_AddrOf.B5 = true := by kernel_rfl
set_option maxHeartbeats 8000000 in
set_option maxRecDepth 100000 in
theorem impl_AddrOf.calls (k : Nat) (A0 : Option Addr) (c0 : Nat) (l0 : List Int) (r1 r2 r3 r4 r5 : Int) (r6 : Bool) (w : World) (hr0 : Kd.C (Kd.int .u8) w A0 l0.length l0) (hc0 : l0.length ≤ c0) (h : impl_AddrOf.f k l0 = some (r1, r2, r3, r4, r5, r6)) :
  Calls Try.prog 55 #[Y A0 l0.length c0] w fun e w'=>e=.returned (.tuple #[.agg #[I L r1,I L r2,I L r3,I L r4,I L r5],.bool r6])∧Below w.heap.size w w':=by
 have hu25 := Try.underlying25
 have HR0 := D hr0
 have HC0 := D hc0
 clear hr0 hc0
 have HB := D (Below.refl w.heap.size w)
 have H:(if (l0.length:Int)=4 then ((impl_beOf.f k l0).bind fun Xa=>(some (4,0,0,0,Xa,true))) else (if (l0.length:Int)=16 then (if 4≤(l0.length:Int) then ((impl_beOf.f k (l0.take 4)).bind fun Ma=>(if 4≤8 then (if 8≤(l0.length:Int) then ((impl_beOf.f k ((l0.take 8).drop 4)).bind fun Oa=>(if 8≤12 then (if 12≤(l0.length:Int) then ((impl_beOf.f k ((l0.take 12).drop 8)).bind fun Ua=>((impl_beOf.f k (l0.drop 12)).bind fun Jb=>(some (6,Ma,Oa,Ua,Jb,true)))) else (none)) else (none))) else (none)) else (none))) else (none)) else (some (0,0,0,0,0,false))))=some (r1,r2,r3,r4,r5,r6):=h
 clear h
 have HU2 := D H
 clear H
 go_enter Try.func55, Try.ntmps55
 go_upto_if 6 with (first|((with_reducible refine gate_dst (N:=2) rfl ?_);refine bx_ (N:=2) (cs:=#[I L 0,I L 0,I L 0,I L 0,I L 0]) (t:=25) ?_;intro Ka hg w3 hbox hb;have n_:=an_ (below_step (pB_ HB.out) hb)<|an_ (hbox)<|an_ (bg_ hg (pB_ HB.out):w.heap.size≤Ka)<|D (bg_ hg (pB_ HB.out):w.heap.size≤Ka);clear HB;obtain ⟨HB,Ja,Jc,Kc⟩:=n_;clear hb hbox hg))
 have H := HU2.out
 clear HU2
 by_cases c4 : (l0.length : Int) = 4
 ·rw [if_pos c4] at H
  have c4b0:((l0.length:Int) == 4)=true:=beq_iff_eq.mpr c4;have c4b1:((l0.length:Int) != 4)=false:=bne_eq_false_iff_eq.mpr c4;clear c4;refine rw_ c4b0 ?_;obtain ⟨Xa,A50,H⟩:=bs_.mp H;(try dsimp only at H);have A5:=D A50;clear A50;simp only [Option.some.injEq,Prod.mk.injEq] at H;obtain ⟨rfl,rfl,rfl,rfl,rfl,rfl⟩:=H
  go_wp2_with (first|((with_reducible refine gate_callee (f:=60) rfl ?_);refine goesL_ (some 9) rfl rfl Try.func60 (by kernel_rfl) rfl #[Y A0 l0.length c0] rfl Z8 ?_;(with_reducible refine (impl_beOf.calls k _ _ l0 Xa _ ?side1 ?side2 A5.out).mono ?_);(case side1=>exact pC_ (Kd.C_below HR0.out HB.out));(case side2=>exact HC0.out);rintro e w' ⟨rfl,⟨nd,rfl⟩⟩;refine ⟨_,rfl,?_⟩;(try (rw [drewN_self w3];generalize hq_:World.drewN w3 _=w3;have n0_:Aside0 (w3.heap[Ka]?=some (.cells #[I L 0,I L 0,I L 0,I L 0,I L 0] 25 (0,0))):=⟨by rw [← hq_];exact (pk_ Ja.out)⟩;have n1_:Aside0 (Below w.heap.size w w3):=⟨by rw [← hq_];exact (pB_ HB.out)⟩;clear Ja HB hq_;have Ja:=n0_;have HB:=n1_;clear n0_ n1_));have Mc:=cells5 Ja.out))
  refine bodyPost_ret (results_ct rfl _ _ Ka 25 #[I L 4,I L 0,I L 0,I L 0,I L Xa] (0,0) _ rfl Z3 Try.underlying25 rfl (by kernel_rfl)) rfl ?_;exact ⟨er_,pB_ HB.out⟩
 ·rw [if_neg c4] at H
  have c4b0:((l0.length:Int) == 4)=false:=beq_eq_false_iff_ne.mpr c4;have c4b1:((l0.length:Int) != 4)=true:=bne_iff_ne.mpr c4;refine rw_ c4b0 ?_
  by_cases c7 : (l0.length : Int) = 16
  ·rw [if_pos c7] at H
   have c7b0 : ((l0.length : Int) == 16) = true := beq_iff_eq.mpr c7; have c7b1 : ((l0.length : Int) != 16) = false := bne_eq_false_iff_eq.mpr c7; clear c7
   by_cases c8 : 4 ≤ (l0.length : Int)
   ·rw [if_pos c8] at H
    have c8b0:=eq_true c8;have c8b1:decide (4≤(l0.length:Int))=true:=decide_eq_true c8;clear c8;obtain ⟨Ma,A90,H⟩:=bs_.mp H;(try dsimp only at H);have A9:=D A90;clear A90
    by_cases c10 : 4 ≤ 8
    ·rw [if_pos c10] at H
     have c10b0 := eq_true c10; have c10b1 : decide (4 ≤ 8) = true := decide_eq_true c10; clear c10
     by_cases c11 : 8 ≤ (l0.length : Int)
     ·rw [if_pos c11] at H
      have c11b0:=eq_true c11;have c11b1:decide (8≤(l0.length:Int))=true:=decide_eq_true c11;clear c11;obtain ⟨Oa,A120,H⟩:=bs_.mp H;(try dsimp only at H);have A12:=D A120;clear A120
      by_cases c13 : 8 ≤ 12
      ·rw [if_pos c13] at H
       have c13b0 := eq_true c13; have c13b1 : decide (8 ≤ 12) = true := decide_eq_true c13; clear c13
       by_cases c14 : 12 ≤ (l0.length : Int)
       ·rw [if_pos c14] at H
        have c14b0:=eq_true c14;have c14b1:decide (12≤(l0.length:Int))=true:=decide_eq_true c14;clear c14;obtain ⟨Ua,A150,H⟩:=bs_.mp H;(try dsimp only at H);have A15:=D A150;clear A150;have c16b0:=eq_true (od_ Z16:12≤(l0.length:Int));obtain ⟨Jb,A170,H⟩:=bs_.mp H;(try dsimp only at H);have A17:=D A170;clear A170;simp only [Option.some.injEq,Prod.mk.injEq] at H;obtain ⟨rfl,rfl,rfl,rfl,rfl,rfl⟩:=H
        try go_wp2
        have n_ := an_ (blk_drew Ja.out) <| D (below_drew1 HB.out)
        clear Ja HB;obtain ⟨Ja,HB⟩:=n_;obtain ⟨i019,hi019,_,hsz19,_⟩:=info_parts info5;obtain ⟨hcut19,hA19,hC19⟩:=print_take_of (P:=Try.prog) (Value.int .u8) 0 22 5 .i64 Try.underlying22 hi019 hsz19 A0 c0 l0 4 (by omega) (od_ Z16) HC0.out;have HR766:=D (Kd.C_of_reads (h1:=fun _=>rfl) (hA19 _ (Kd.reads_of_C HR0.out)));have HC766:=D hC19;clear hA19 hC19 hi019 hsz19;obtain ⟨i020,hi020,_,hsz20,_⟩:=info_parts info5;obtain ⟨A20,hcut20,hA20,hC20⟩:=print_mid_of (P:=Try.prog) (Value.int .u8) 0 22 5 .i64 .i64 Try.underlying22 hi020 hsz20 A0 c0 l0 4 8 (by omega) (by first|omega|exact od_ Z16) (od_ Z16) HC0.out;have HR768:=D (Kd.C_of_reads (h1:=fun _=>rfl) (hA20 _ (Kd.reads_of_C HR0.out)));have HC768:=D hC20;clear hA20 hC20 hi020 hsz20;obtain ⟨i021,hi021,_,hsz21,_⟩:=info_parts info5;obtain ⟨A21,hcut21,hA21,hC21⟩:=print_mid_of (P:=Try.prog) (Value.int .u8) 0 22 5 .i64 .i64 Try.underlying22 hi021 hsz21 A0 c0 l0 8 12 (by omega) (by first|omega|exact od_ Z16) (od_ Z16) HC0.out;have HR770:=D (Kd.C_of_reads (h1:=fun _=>rfl) (hA21 _ (Kd.reads_of_C HR0.out)));have HC770:=D hC21;clear hA21 hC21 hi021 hsz21;obtain ⟨i022,hi022,_,hsz22,_⟩:=info_parts info5;obtain ⟨A22,hcut22,hA22,hC22⟩:=print_drop_of (P:=Try.prog) (Value.int .u8) 0 22 5 .i64 Try.underlying22 hi022 hsz22 A0 c0 l0 12 (by omega) (od_ Z16) HC0.out;have HR772:=D (Kd.C_of_reads (h1:=fun _=>rfl) (hA22 _ (Kd.reads_of_C HR0.out)));have HC772:=D hC22;clear hA22 hC22 hi022 hsz22;refine start_ (n:=15) (S:=fun w'=>True) (ds:=[]) (bz 15 0) (by kernel_rfl) rfl (by kernel_rfl) trivial (fun hHeld=>?_);refine with_tabW impl_AddrOf.tab5 impl_AddrOf.bits5 (fun HT_ HW_=>?_);generalize w3.drew=w18 at Ja HB HR766 HR768 HR770 HR772 hHeld ⊢;refine pb_ 0 ?_;refine pb_ 1 ?_;refine pb_ 3 ?_;refine pb_ 4 ?_;refine pb_ 6 ?_;refine pb_ 7 ?_;refine pb_ 9 ?_;refine pb_ 10 ?_;refine oa_ 2 15 15 1759 HT_ (fun K hK=>?_);refine goes_ Try.func60 (by kernel_rfl) rfl #[Y A0 (l0.take 4).length c0] (by rfl) rfl rfl (by (try simp only [List.map_toArray,List.map_cons,List.map_nil]);first|done|(rw [show (l0.take 4).length=4 from (by rw [List.length_take];have h_:(4:Int)≤(l0.length:Int):=od_ Z16;omega)] <;> rfl)|rfl|(simp only [List.length_drop,List.length_take];rfl)) ?_;with_reducible refine (impl_beOf.calls k _ _ (l0.take 4) Ma _ ?side1 ?side2 A9.out).mono ?_
        (case side1=>exact pC_ (Kd.C_below HR766.out HB.out));(case side2=>exact HC766.out);rintro e w' ⟨rfl,⟨nd,rfl⟩⟩;refine ⟨_,rfl,?_⟩;refine hK.out _ _ trivial (fun hHeld=>?_);clear hK K;refine nx_ (N:=some 15) ?_;refine oa_ 5 18 15 1791 HT_ (fun K hK=>?_);refine goes_ Try.func60 (by kernel_rfl) rfl #[Y A20 ((l0.take 8).drop 4).length (c0 - 4)] (by rfl) rfl rfl (by (try simp only [List.map_toArray,List.map_cons,List.map_nil]);first|done|(rw [show ((l0.take 8).drop 4).length=(8 - 4) from (by rw [List.length_drop,List.length_take];have h_:(8:Int)≤(l0.length:Int):=od_ Z16;omega)] <;> rfl)|rfl|(simp only [List.length_drop,List.length_take];rfl)) ?_;with_reducible refine (impl_beOf.calls k _ _ ((l0.take 8).drop 4) Oa _ ?side1 ?side2 A12.out).mono ?_
        (case side1=>exact pC_ (Kd.C_below HR768.out (pB_ HB.out)));(case side2=>exact HC768.out);rintro e w' ⟨rfl,⟨nd,rfl⟩⟩;refine ⟨_,rfl,?_⟩;refine hK.out _ _ trivial (fun hHeld=>?_);clear hK K;refine nx_ (N:=some 18) ?_;refine oa_ 8 21 15 2047 HT_ (fun K hK=>?_);refine goes_ Try.func60 (by kernel_rfl) rfl #[Y A21 ((l0.take 12).drop 8).length (c0 - 8)] (by rfl) rfl rfl (by (try simp only [List.map_toArray,List.map_cons,List.map_nil]);first|done|(rw [show ((l0.take 12).drop 8).length=(12 - 8) from (by rw [List.length_drop,List.length_take];have h_:(12:Int)≤(l0.length:Int):=od_ Z16;omega)] <;> rfl)|rfl|(simp only [List.length_drop,List.length_take];rfl)) ?_;with_reducible refine (impl_beOf.calls k _ _ ((l0.take 12).drop 8) Ua _ ?side1 ?side2 A15.out).mono ?_
        (case side1=>exact pC_ (Kd.C_below HR770.out (pB_ HB.out)));(case side2=>exact HC770.out);rintro e w' ⟨rfl,⟨nd,rfl⟩⟩;refine ⟨_,rfl,?_⟩;refine hK.out _ _ trivial (fun hHeld=>?_);clear hK K;refine nx_ (N:=some 21) ?_;refine oa_ 11 24 15 4095 HT_ (fun K hK=>?_);refine goes_ Try.func60 (by kernel_rfl) rfl #[Y A22 (l0.drop 12).length (c0 - 12)] (by rfl) rfl rfl (by (try simp only [List.map_toArray,List.map_cons,List.map_nil]);first|done|(rw [show (l0.drop 12).length=(l0.length - 12) from List.length_drop] <;> rfl)|rfl|(simp only [List.length_drop,List.length_take];rfl)) ?_;with_reducible refine (impl_beOf.calls k _ _ (l0.drop 12) Jb _ ?side1 ?side2 A17.out).mono ?_
        (case side1=>exact pC_ (Kd.C_below HR772.out (pB_ HB.out)));(case side2=>exact HC772.out);rintro e w' ⟨rfl,⟨nd,rfl⟩⟩;refine ⟨_,rfl,?_⟩;refine hK.out _ _ trivial (fun hHeld=>?_);clear hK K;refine nx_ (N:=some 24) ?_;refine pb_ 12 ?_;refine one_ (i:=13) (N:=none) (bz 15 16383) rfl rfl (one_of HT_.out (by kernel_rfl)) (by decide) (fun K hK=>?_);have hs23:w18.cell? ⟨Ka,0,none⟩=some (I L 0):=bc_ Ja.out 0;have hfs23:=blk_frozen Ja.out 0;have hs24:w18.cell? ⟨Ka,1,none⟩=some (I L 0):=bc_ Ja.out 1;have hfs24:=blk_frozen Ja.out 1;have hs25:w18.cell? ⟨Ka,2,none⟩=some (I L 0):=bc_ Ja.out 2;have hfs25:=blk_frozen Ja.out 2;have hs26:w18.cell? ⟨Ka,3,none⟩=some (I L 0):=bc_ Ja.out 3;have hfs26:=blk_frozen Ja.out 3;have hs27:w18.cell? ⟨Ka,4,none⟩=some (I L 0):=bc_ Ja.out 4;have hfs27:=blk_frozen Ja.out 4;refine skip_ (w1:=?_) (by rfl) rfl ?_ ?_;rotate_left
        ·go_simp
         rfl
        refine hK.out _ _ trivial (fun hHeld=>?_);clear hK K;refine pb_ 14 ?_;refine done_ (done_of HT_.out (by kernel_rfl)) ?_
        try go_wp2
        refine bodyPost_ret (results_ct rfl _ _ Ka 25 #[I L 6,I L Ma,I L Oa,I L Ua,I L Jb] (0,0) _ rfl (by exact pP_ Ja.out) Try.underlying25 rfl (by kernel_rfl)) rfl ?_;exact ⟨er_,pB_ HB.out⟩
       ·rw [if_neg c14] at H
        exact absurd H (by simp)
      ·rw [if_neg c13] at H
       exact absurd H (by simp)
     ·rw [if_neg c11] at H
      exact absurd H (by simp)
    ·rw [if_neg c10] at H
     exact absurd H (by simp)
   ·rw [if_neg c8] at H
    exact absurd H (by simp)
  ·rw [if_neg c7] at H
   have c7b0:((l0.length:Int) == 16)=false:=beq_eq_false_iff_ne.mpr c7;have c7b1:((l0.length:Int) != 16)=true:=bne_iff_ne.mpr c7;simp only [Option.some.injEq,Prod.mk.injEq] at H;obtain ⟨rfl,rfl,rfl,rfl,rfl,rfl⟩:=H;have Ke:=cells5 Ja.out
   go_wp2
   refine bodyPost_ret (results_ct rfl _ _ Ka 25 #[I L 0,I L 0,I L 0,I L 0,I L 0] (0,0) _ rfl (by exact pP_ Ja.out) Try.underlying25 rfl (by kernel_rfl)) rfl ?_;exact ⟨er_,pB_ HB.out⟩

/-! ### impl_Cut: function 48 -/
mutual
def impl_Cut.j0 : Nat → Int → Bool → Int → Int → Int → Int → Int → Option (Int × Int × Int × Int × Int)
 | 0, _, _, _, _, _, _, _ => none
 | k + 1,x1,x19,x775000,x775001,x775002,x775003,x775004=>if x19=true then (some (0,0,0,0,0)) else ((impl_AddrBytes.f k x775000 x775001 x775002 x775003 x775004).bind fun Kb=>(impl_Cut.l0 k x1 Kb (Kb.length:Int) 0))
def impl_Cut.l0 : Nat → Int → List Int → Int → Int → Option (Int × Int × Int × Int × Int)
 | 0, _, _, _, _ => none
 | k + 1,x1,x5,x24,x25=>if x25 < x24 then ((impl_Clip.f (wrap64 (x1 - (wrap64 (8 * x25)))) 0 8).bind fun Mb=>(if 0≤x25 then (if x25 < (x5.length:Int) then (if 0≤Mb then (impl_Cut.l0 k x1 (x5.set (x25:Int).toNat (Go.bits .and .u8 (rd x5 x25) ((shr .u16 65280 Mb) % 256))) x24 (wrap64 (x25 + 1))) else (none)) else (none)) else (none))) else ((impl_AddrOf.f k x5).bind fun bt785=>(some (bt785.1,bt785.2.1,bt785.2.2.1,bt785.2.2.2.1,bt785.2.2.2.2.1)))
end
def impl_Cut.f (k : Nat) (a0_0 a0_1 a0_2 a0_3 a0_4 a1 : Int) : Option (Int × Int × Int × Int × Int) := (impl_AddrOk.f a0_0 a0_1 a0_2 a0_3 a0_4).bind fun Ob => (if Ob = true then ((impl_bitsOf.f a0_0 a0_1 a0_2 a0_3 a0_4).bind fun Ub => ((impl_within.f a1 0 Ub).bind fun Xb => (impl_Cut.j0 k a1 (!Xb) a0_0 a0_1 a0_2 a0_3 a0_4))) else (impl_Cut.j0 k a1 true a0_0 a0_1 a0_2 a0_3 a0_4))
def impl_Cut.T8 : Bool × List (List Nat × List Nat) := (true, [([], []), ([], []), ([0, 1], [0, 1]), ([2], [2]), ([], []), ([4], [4]), ([5], [5]), ([3, 6], [3, 6]), ([0, 1, 0, 1, 2, 3, 4, 5, 6, 7], [0, 1]), ([8, 7, 0, 1, 2, 3, 4, 5, 6, 7], [7, 8])])
def impl_Cut.B8 : List Nat := [0, 0, 3, 7, 0, 16, 48, 127, 255, 511]
theorem impl_Cut.tab8 : rtab .any (opsOf Try.f48 8) = impl_Cut.T8 := by kernel_rfl
theorem impl_Cut.bits8 : waitsOk impl_Cut.T8.2 impl_Cut.B8 = true := by kernel_rfl
set_option maxHeartbeats 8000000 in
set_option maxRecDepth 100000 in
theorem impl_Cut.calls (k : Nat) (a0_0 a0_1 a0_2 a0_3 a0_4 a1 r1 r2 r3 r4 r5 : Int) (w : World) (h : impl_Cut.f k a0_0 a0_1 a0_2 a0_3 a0_4 a1 = some (r1, r2, r3, r4, r5)) :
  Calls Try.prog 48 #[.agg #[I L a0_0,I L a0_1,I L a0_2,I L a0_3,I L a0_4],I L a1] w fun e w'=>e=.returned (.agg #[I L r1,I L r2,I L r3,I L r4,I L r5])∧Below w.heap.size w w':=by
 have hu25 := Try.underlying25
 have HB := D (Below.refl w.heap.size w)
 have H:((impl_AddrOk.f a0_0 a0_1 a0_2 a0_3 a0_4).bind fun Md=>(if Md=true then ((impl_bitsOf.f a0_0 a0_1 a0_2 a0_3 a0_4).bind fun Oc=>((impl_within.f a1 0 Oc).bind fun Uc=>(impl_Cut.j0 k a1 (!Uc) a0_0 a0_1 a0_2 a0_3 a0_4))) else (impl_Cut.j0 k a1 true a0_0 a0_1 a0_2 a0_3 a0_4)))=some (r1,r2,r3,r4,r5):=h
 clear h
 have HC3 := D H
 clear H
 go_enter Try.func48, Try.ntmps48
 go_upto_region 1 with (first|((with_reducible refine gate_dst (N:=2) rfl ?_);refine bx_ (N:=2) (cs:=#[I L a0_0,I L a0_1,I L a0_2,I L a0_3,I L a0_4]) (t:=25) ?_;intro Xa hg w4 hbox hb;have n_:=an_ (below_step (pB_ HB.out) hb)<|an_ (hbox)<|an_ (bg_ hg (pB_ HB.out):w.heap.size≤Xa)<|D (bg_ hg (pB_ HB.out):w.heap.size≤Xa);clear HB;obtain ⟨HB,Ja,Xo,Oj⟩:=n_;clear hb hbox hg)|((with_reducible refine gate_dst (N:=4) rfl ?_);refine bx_ (N:=4) (cs:=#[I L 0,I L 0,I L 0,I L 0,I L 0]) (t:=25) ?_;intro Ua hg w5 hbox hb;have n_:=an_ (blk_below (pk_ Ja.out) hb)<|an_ (below_step (pB_ HB.out) hb)<|an_ (hbox)<|an_ (bg_ hg (pB_ HB.out):w.heap.size≤Ua)<|an_ (bg_ hg (pB_ HB.out):w.heap.size≤Ua)<|an_ (nl_ hg (pk_ Ja.out):Xa≠Ua)<|D (by rw [hg];exact Nat.ne_of_gt (blk_lt (pk_ Ja.out)):Ua≠Xa);clear Ja HB;obtain ⟨Ja,HB,Ka,Jp,Uj,Jc,Kc⟩:=n_;clear hb hbox hg))
 (try simp only [Act.put, List.setIfInBounds_toArray, List.set_cons_zero, List.set_cons_succ])
 go_cut [19] (fun v19 wc=>∃ (kq:Nat) (Xc:Bool),v19=.bool Xc∧Aside0 (impl_Cut.j0 kq a1 Xc a0_0 a0_1 a0_2 a0_3 a0_4=some (r1,r2,r3,r4,r5))∧Aside0 (kq≤k)∧Aside0 (wc.heap[Xa]?=some (.cells #[I L a0_0,I L a0_1,I L a0_2,I L a0_3,I L a0_4] 25 (0,0)))∧Aside0 (wc.heap[Ua]?=some (.cells #[I L 0,I L 0,I L 0,I L 0,I L 0] 25 (0,0)))∧Aside0 (Below w.heap.size w wc))
 case first =>
  have H := HC3.out; clear HC3; obtain ⟨Md, A60, H⟩ := bs_.mp H; (try dsimp only at H); have A6 := D A60; clear A60
  by_cases c7 : Md = true
  ·subst c7
   rw [if_pos rfl] at H;obtain ⟨Oc,A80,H⟩:=bs_.mp H;(try dsimp only at H);have A8:=D A80;clear A80;obtain ⟨Uc,A90,H⟩:=bs_.mp H;(try dsimp only at H);have A9:=D A90;clear A90;have H':=D H;clear H;(try have:=Jc.out);(try have:=Kc.out);have Je:=cells5 Ja.out
   go_wp2_with (first|((with_reducible refine gate_callee (f:=44) rfl ?_);refine goesL_ (some 11) rfl rfl Try.func44 (by kernel_rfl) rfl #[.agg #[I L a0_0,I L a0_1,I L a0_2,I L a0_3,I L a0_4]] rfl Z8 ?_;(with_reducible refine (impl_AddrOk.calls a0_0 a0_1 a0_2 a0_3 a0_4 true _ A6.out).mono ?_);rintro e w12 ⟨rfl,hb⟩;refine ⟨_,rfl,?_⟩;have n_:=an_ (blk_below (pk_ Ja.out) hb)<|an_ (blk_below (pk_ Ka.out) hb)<|D (below_step (pB_ HB.out) hb);clear Ja Ka HB;obtain ⟨Ja,Ka,HB⟩:=n_;(try clear hb);have Uf:=cells5 Ja.out)|(go_at_call 47;(with_reducible refine (impl_bitsOf.calls a0_0 a0_1 a0_2 a0_3 a0_4 Oc _ A8.out).mono ?_);rintro e w14 ⟨rfl,hb⟩;have n_:=an_ (blk_below (pk_ Ja.out) hb)<|an_ (blk_below (pk_ Ka.out) hb)<|D (below_step (pB_ HB.out) hb);clear Ja Ka HB;obtain ⟨Ja,Ka,HB⟩:=n_;(try clear hb))|(go_at_call 31;(with_reducible refine (impl_within.calls a1 0 Oc Uc _ A9.out).mono ?_);rintro e w' ⟨rfl,⟨nd,rfl⟩⟩))
   go_meet
   case rel => exact ⟨_, (!Uc), Z17, H', ⟨by first | omega | exact Nat.le_refl _⟩, ⟨pk_ Ja.out⟩, ⟨pk_ Ka.out⟩, ⟨pB_ HB.out⟩⟩
  ·replace c7 := Bool.eq_false_iff.mpr c7
   subst c7;rw [if_neg (show ¬ (false=true) by decide)] at H;have H':=D H;clear H;(try have:=Jc.out);(try have:=Kc.out);have Mh:=cells5 Ja.out
   go_wp2_with (first|((with_reducible refine gate_callee (f:=44) rfl ?_);refine goesL_ (some 11) rfl rfl Try.func44 (by kernel_rfl) rfl #[.agg #[I L a0_0,I L a0_1,I L a0_2,I L a0_3,I L a0_4]] rfl Z8 ?_;(with_reducible refine (impl_AddrOk.calls a0_0 a0_1 a0_2 a0_3 a0_4 false _ A6.out).mono ?_);rintro e w17 ⟨rfl,hb⟩;refine ⟨_,rfl,?_⟩;have n_:=an_ (blk_below (pk_ Ja.out) hb)<|an_ (blk_below (pk_ Ka.out) hb)<|D (below_step (pB_ HB.out) hb);clear Ja Ka HB;obtain ⟨Ja,Ka,HB⟩:=n_;(try clear hb)))
   go_meet
   case rel => exact ⟨_, (true), Z17, H', ⟨by first | omega | exact Nat.le_refl _⟩, ⟨pk_ Ja.out⟩, ⟨pk_ Ka.out⟩, ⟨pB_ HB.out⟩⟩
 case rest =>
  clear HC3
  (try clear c1);(try clear p2);(try clear c4);(try clear c7);(try clear c10);(try clear c15);(try clear Je);(try clear Uf);(try clear Mh)
  obtain ⟨kq, Xc, rfl, HA, HJ2, Ja, Ka, HB⟩ := hcut
  cases kq with
  | zero => exact absurd HA.out (by simp [impl_Cut.j0])
  | succ kj2 =>
   have H := HA.out; clear HA; simp only [impl_Cut.j0] at H
   by_cases c18 : Xc = true
   ·subst c18
    rw [if_pos rfl] at H;simp only [Option.some.injEq,Prod.mk.injEq] at H;obtain ⟨rfl,rfl,rfl,rfl,rfl⟩:=H;(try have:=Kc.out);(try have:=Jc.out);have Xj:=cells5 Ka.out
    go_wp2
    refine bodyPost_ret (results_cell_row rfl _ _ Ua 25 #[I L 0,I L 0,I L 0,I L 0,I L 0] (0,0) _ rfl Z2 Try.underlying25 rfl (by kernel_rfl)) rfl ?_;exact ⟨er_,pB_ HB.out⟩
   ·replace c18 := Bool.eq_false_iff.mpr c18
    subst c18;rw [if_neg (show ¬ (false=true) by decide)] at H;obtain ⟨Mb,A210,H⟩:=bs_.mp H;(try dsimp only at H);have A21:=D A210;clear A210;have H':=D H;clear H;(try have:=Jc.out);(try have:=Kc.out);have Om:=cells5 Ja.out
    go_wp2_with (first|((with_reducible refine gate_callee (f:=53) rfl ?_);refine goesL_ (some 22) rfl rfl Try.func53 (by kernel_rfl) rfl #[.agg #[I L a0_0,I L a0_1,I L a0_2,I L a0_3,I L a0_4]] rfl Z8 ?_;(with_reducible refine (impl_AddrBytes.calls kj2 a0_0 a0_1 a0_2 a0_3 a0_4 Mb _ A21.out).mono ?_);rintro e w24 ⟨Kp,rfl,ho0,hb⟩;refine ⟨_,rfl,?_⟩;have n_:=an_ (Kd.R_lower ho0 (below_size (pB_ HB.out)))<|an_ (blk_below (pk_ Ja.out) hb)<|an_ (blk_below (pk_ Ka.out) hb)<|D (below_step (pB_ HB.out) hb);clear Ja Ka HB;obtain ⟨Jj,Ja,Ka,HB⟩:=n_;(try clear hb);(try clear ho0);obtain ⟨Od,Ud,eo25⟩:=Kd.R_slice Jj.out;subst eo25))
    go_loopg [25] kj2 (fun kq v25 w'=>∃ (x5_2:List Int) (Ma:Int),v25=I L Ma∧Aside0 (impl_Cut.l0 kq a1 x5_2 (Mb.length:Int) Ma=some (r1,r2,r3,r4,r5))∧Aside0 (kq≤kj2)∧Aside0 (Kd.R (Kd.int .u8) 5 w' w.heap.size (fun _=>True) (Y Od Mb.length Ud) x5_2)∧Aside0 (w'.heap[Xa]?=some (.cells #[I L a0_0,I L a0_1,I L a0_2,I L a0_3,I L a0_4] 25 (0,0)))∧Aside0 (w'.heap[Ua]?=some (.cells #[I L 0,I L 0,I L 0,I L 0,I L 0] 25 (0,0)))∧Aside0 (Below w.heap.size w w'))
    case atStart => exact ⟨(Mb), (0), Z17, H', ⟨Nat.le_refl _⟩, ⟨pR_ Jj.out⟩, ⟨pk_ Ja.out⟩, ⟨pk_ Ka.out⟩, ⟨pB_ HB.out⟩⟩
    case round =>
     clear H'
     (try clear c1);(try clear c2);(try clear p2);(try clear c4);(try clear c5);(try clear c7);(try clear c10);(try clear c15);(try clear c18);(try clear c19);(try clear c22);(try clear Je);(try clear Uf);(try clear Mh);(try clear Xj);(try clear Om);(try clear p2)
     obtain ⟨x5_2,Ma,rfl,HA,HK2,Oa,Ja,Ka,HB⟩:=hrel;have hl5_2:=(Kd.R_reads' Oa.out).1;rw [hl5_2] at Oa;(try simp only [hl5_2]);(try simp only [hl5_2] at Ja);(try simp only [hl5_2] at Ka)
     cases gk with
     | zero => exact absurd HA.out (by simp [impl_Cut.l0])
     | succ k2 =>
      have H := HA.out; clear HA; simp only [impl_Cut.l0] at H
      by_cases c26 : Ma < (Mb.length : Int)
      ·rw [if_pos c26] at H
       have c26b0:decide (Ma < (Mb.length:Int))=true:=decide_eq_true c26;clear c26;(try (have c26h:=c26b0;simp only [hl5_2] at c26h));obtain ⟨Ob,A270,H⟩:=bs_.mp H;(try dsimp only at H);have A27:=D A270;clear A270
       by_cases c28 : 0 ≤ Ma
       ·rw [if_pos c28] at H
        have c28b0 : decide (0 ≤ Ma) = true := decide_eq_true c28; clear c28
        by_cases c29 : Ma < (x5_2.length : Int)
        ·rw [if_pos c29] at H
         have c29b0 : decide (Ma < (x5_2.length : Int)) = true := decide_eq_true c29; clear c29; (try (have c29h := c29b0; simp only [hl5_2] at c29h))
         by_cases c30 : 0 ≤ Ob
         ·rw [if_pos c30] at H
          have c30b0 := eq_true c30; have c30b1 : decide (0 ≤ Ob) = true := decide_eq_true c30; clear c30; obtain ⟨ji31, hji31⟩ : ∃ j_ : Int, (shr .u16 65280 Ob) = j_ := ⟨_, rfl⟩
          replace H:(impl_Cut.l0 k2 a1 (x5_2.set (Ma:Int).toNat (Go.bits .and .u8 (rd x5_2 Ma) ((ji31) % 256))) (Mb.length:Int) (wrap64 (Ma + 1)))=some (r1,r2,r3,r4,r5):=by first|(rw [hji31] at H;exact H)|(simp only [hji31] at H ⊢;exact H)
          (try rw [hji31] at A27);have hji31_:(65280 / 2 ^ min Ob.toNat 16)=ji31:=hji31;have hji31z:Ob≤16 → (65280 / 2 ^ Ob.toNat)=ji31:=shr_small hji31;obtain ⟨y784,hy784⟩:∃ y_:List Int,y_=(x5_2.set (Ma:Int).toNat (Go.bits .and .u8 (rd x5_2 Ma) ((ji31) % 256))):=⟨_,rfl⟩
          replace H:(impl_Cut.l0 k2 a1 y784 (Mb.length:Int) (wrap64 (Ma + 1)))=some (r1,r2,r3,r4,r5):=by first|(rw [hy784];with_reducible exact H)|(have H2_:=(Option.bind_some _ _).symm.trans H;rw [hy784];with_reducible exact H2_)|(have H2_:=(Option.bind_some _ _).symm.trans H;with_reducible exact H2_)|with_reducible exact H|(rw [hy784];exact H)|exact H
          have Ny784 := D hy784; clear hy784; have H' := D H; clear H
          try go_wp2_with (first|((with_reducible refine gate_callee (f:=54) rfl ?_);refine goesL_ (some 32) rfl rfl Try.func54 (by kernel_rfl) rfl #[I L (wrap64 (a1 - (wrap64 (8 * Ma)))),I L 0,I L 8] rfl Z8 ?_;(with_reducible refine (impl_Clip.calls (wrap64 (a1 - (wrap64 (8 * Ma)))) 0 8 Ob _ A27.out).mono ?_);rintro e w' ⟨rfl,⟨nd,rfl⟩⟩;refine ⟨_,rfl,?_⟩;(try (rw [drewN_self wr];generalize hq_:World.drewN wr _=wr;have n0_:Aside0 (Kd.R (Kd.int .u8) 5 wr w.heap.size (fun _=>True) (Y Od x5_2.length Ud) x5_2):=⟨by rw [← hq_];exact (pR_ Oa.out)⟩;have n1_:Aside0 (wr.heap[Xa]?=some (.cells #[I L a0_0,I L a0_1,I L a0_2,I L a0_3,I L a0_4] 25 (0,0))):=⟨by rw [← hq_];exact (pk_ Ja.out)⟩;have n2_:Aside0 (wr.heap[Ua]?=some (.cells #[I L 0,I L 0,I L 0,I L 0,I L 0] 25 (0,0))):=⟨by rw [← hq_];exact (pk_ Ka.out)⟩;have n3_:Aside0 (Below w.heap.size w wr):=⟨by rw [← hq_];exact (pB_ HB.out)⟩;clear Oa Ja Ka HB hq_;have Oa:=n0_;have Ja:=n1_;have Ka:=n2_;have HB:=n3_;clear n0_ n1_ n2_ n3_))))
          have n_ := an_ (Kd.R_drew Oa.out) <| an_ (blk_drew Ja.out) <| an_ (blk_drew Ka.out) <| D (below_drew1 HB.out)
          clear Oa Ja Ka HB;obtain ⟨Oa,Ja,Ka,HB⟩:=n_;have p783:0≤(Ma:Int):=od_ Z16;have q783:Ma < (x5_2.length:Int):=od_ Z16;obtain ⟨ad783,e783,hx783_0⟩:=Kd.at_int (Kd.R_reads' Oa.out).2.2 Ma p783 q783;cases e783;replace p783:=eq_true p783;replace q783:=eq_true q783;have p32:0≤(Ma:Int):=od_ Z16;have q32:(Ma:Int) < ((x5_2.length:Int):Int):=od_ Z16;obtain ⟨go32,Mp,eo32,Kj,gl32,cl32,HG32⟩:=Kd.R_form Oa.out (by omega);(first|cases eo32|(injection eo32 with ea_ en_ ec_;(first|subst ea_|(injection ea_ with ea_;subst ea_));subst ec_;clear en_));have GB32:=D Kj;have GG32:=D HG32;clear Kj gl32 HG32;(first|simp only [add_plain] at hx783_0|skip);obtain ⟨hx32_0,hf32_0⟩:=Kd.R_celln 0 Oa.out (Ma:Int) p32 q32;replace p32:=eq_true p32;replace q32:=eq_true q32;have HP34:=Kd.R_putn Oa.out (Ma:Int) (Go.bits .and .u8 (rd x5_2 Ma) ((ji31) % 256));rw [← Ny784.out] at HP34;have HQ34:=D HP34;clear HP34;refine start_ (n:=10) (S:=fun w'=>w'.cell? ⟨go32,(Ma).toNat,none⟩=some (.int .u8 (rd x5_2 Ma))) (ds:=[9]) (bz 10 0) (by kernel_rfl) rfl (by kernel_rfl) (hx783_0) (fun hHeld=>?_);refine with_tabW impl_Cut.tab8 impl_Cut.bits8 (fun HT_ HW_=>?_);generalize wr.drew=w33 at Oa Ja Ka HB GG32 HQ34 hf32_0 hx32_0 hx783_0 hHeld ⊢;refine pb_ 0 ?_;refine pb_ 1 ?_;refine pb_ 2 ?_;refine pb_ 4 ?_;refine pb_ 5 ?_;refine pb_ 6 ?_;refine ta_ 3 36 10 127 HT_ HW_ rfl rfl hHeld (by intro w' s0;go_simp;with_reducible rfl) ?_;refine pb_ 7 ?_;refine pb_ 8 ?_;refine last_ (i:=9) (N:=none) (bz 10 1023) rfl rfl (one_of HT_.out (by kernel_rfl)) (by decide) (fun K hK=>?_);refine skip_ (w1:=?_) (by rfl) rfl ?_ ?_;rotate_left
          ·go_simp
           rfl
          refine hK.out _ _ ?_; clear hK K; refine done_ (done_of HT_.out (by kernel_rfl)) ?_
          try go_wp2
          (try simp only [← hl5_2]); go_roundg k2
          case measure => have := HJ2.out; have := HK2.out; omega
          case rel=>exact ⟨(y784),(wrap64 (Ma + 1)),Z17,H',⟨by have:=HJ2.out;have:=HK2.out;omega⟩,⟨by (try simp only [hl5_2]);(with_reducible repeat (first|apply Kd.R_alloc|apply Kd.R_drewN|apply Kd.R_drew));exact HQ34.out⟩,⟨by (try simp only [hl5_2]);refine pk_ ?_;refine blk_far ?_ (by have h_:=Kd.R_ne Oa.out Ja.out (by decide);intro e_;exact h_ (by rw [e_];rfl)) _;refine pk_ ?_;exact Ja.out⟩,⟨by (try simp only [hl5_2]);refine pk_ ?_;refine blk_far ?_ (by have h_:=Kd.R_ne Oa.out Ka.out (by decide);intro e_;exact h_ (by rw [e_];rfl)) _;refine pk_ ?_;exact Ka.out⟩,⟨by repeat (first|(with_reducible first|exact HB.out|apply below_alloc|apply pw_below_drewN|apply below_drew1|refine below_set ?_ GB32.out|refine below_set ?_ Oj.out|refine below_set ?_ Uj.out)|exact HB.out)⟩⟩
         ·rw [if_neg c30] at H
          exact absurd H (by simp)
        ·rw [if_neg c29] at H
         exact absurd H (by simp)
       ·rw [if_neg c28] at H
        exact absurd H (by simp)
      ·rw [if_neg c26] at H
       have c26b0:decide (Ma < (Mb.length:Int))=false:=decide_eq_false c26;clear c26;(try (have c26h:=c26b0;simp only [hl5_2] at c26h));obtain ⟨⟨Ub,Mc,Jd,Xd,Mj,Ko⟩,A350,H⟩:=bs_.mp H;(try dsimp only at H);have A35:=D A350;clear A350;simp only [Option.some.injEq,Prod.mk.injEq] at H;obtain ⟨rfl,rfl,rfl,rfl,rfl⟩:=H
       go_wp2_with (first|((with_reducible refine gate_callee (f:=55) rfl ?_);refine goesL_ (some 45) rfl rfl Try.func55 (by kernel_rfl) rfl #[Y Od x5_2.length Ud] rfl Z8 ?_;(with_reducible refine (impl_AddrOf.calls k2 _ _ x5_2 Ub Mc Jd Xd Mj Ko _ ?side1 ?side2 A35.out).mono ?_);(case side1=>exact pC_ ((Kd.R_reads' Oa.out).2.2));(case side2=>exact (Kd.R_reads' Oa.out).2.1);rintro e w36 ⟨rfl,hb⟩;refine ⟨_,rfl,?_⟩;have n_:=an_ (Kd.R_below (pR_ Oa.out) hb)<|an_ (blk_below (pk_ Ja.out) hb)<|an_ (blk_below (pk_ Ka.out) hb)<|D (below_step (pB_ HB.out) hb);clear Oa Ja Ka HB;obtain ⟨Oa,Ja,Ka,HB⟩:=n_;(try clear hb))|((with_reducible refine gate_dst (N:=8) rfl ?_);refine bx_ (N:=8) (cs:=#[I L 0,I L 0,I L 0,I L 0,I L 0]) (t:=25) ?_;intro Jb hg w37 hbox hb;have n_:=an_ (Kd.R_below (pR_ Oa.out) hb)<|an_ (blk_below (pk_ Ja.out) hb)<|an_ (blk_below (pk_ Ka.out) hb)<|an_ (below_step (pB_ HB.out) hb)<|an_ (hbox)<|an_ (bg_ hg (pB_ HB.out):w.heap.size≤Jb)<|an_ (bg_ hg (pB_ HB.out):w.heap.size≤Jb)<|an_ (nl_ hg (pk_ Ja.out):Xa≠Jb)<|an_ (ng_ hg (pk_ Ja.out):Jb≠Xa)<|an_ (nl_ hg (pk_ Ka.out):Ua≠Jb)<|D (by rw [hg];exact Nat.ne_of_gt (blk_lt (pk_ Ka.out)):Jb≠Ua);clear Oa Ja Ka HB;obtain ⟨Oa,Ja,Ka,HB,Kb,Op,Up,Mo,Oo,Xb,Uo⟩:=n_;clear hb hbox hg;(try have:=Oo.out);(try have:=Mo.out);(try have:=Uo.out);(try have:=Xb.out);have Xp:=cells5 Kb.out;(try have:=Kc.out);(try have:=Jc.out);have Or:=cells5 Ka.out))
       refine bodyPost_ret (results_cell_row rfl _ _ Ua 25 #[I L Ub,I L Mc,I L Jd,I L Xd,I L Mj] (0,0) _ rfl (by exact pP_ Ka.out) Try.underlying25 rfl (by kernel_rfl)) rfl ?_;exact ⟨er_,pB_ HB.out⟩

end Go.Proofs.Ytjhgkonacdimfaa.PFnTurnedKey
