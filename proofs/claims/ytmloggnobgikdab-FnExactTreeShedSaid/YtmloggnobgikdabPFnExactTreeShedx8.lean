-- by a program of this session's, over the kit's words
import Derived.Test.YtmloggnobgikdabPZFnExactTreeShed
import Derived.Test.YtmloggnobgikdabPFnExactTreeShedx0
import Derived.Test.YtmloggnobgikdabPFnExactTreeShedx3
import Derived.Test.YtmloggnobgikdabPFnExactTreeShedx6
import Derived.Test.YtmloggnobgikdabPFnExactTreeShedx7
namespace Go.Proofs.Ytmloggnobgikdab.PFnExactTreeShed
open Go.RowKit Go.Proofs.YtmloggnobgikdabW.PrintWords Go.Proofs.YtmloggnobgikdabW.PrintLast Go.Proofs.YtmloggnobgikdabW.PrintMore Go.Proofs.YtmloggnobgikdabV Go.Proofs.Ytmloggnobgikdab.ZFnExactTreeShed
open Go.Value renaming int → I, slice → Y
open Go.IntKind renaming i64 → L
open Aside0 renaming mk → D
open Option renaming bind_eq_some_iff → bs_
attribute [local go_sem] max2_int min2_int max_two min_two max_three min_three max_four min_four   -- for this text's walks alone
set_option linter.unusedVariables false
set_option linter.unusedSimpArgs false

/-! ### spec_l18Without: function 34 -/
def spec_l18Without.l0 : Nat → Int → Int → Int → Int → Int → Int → List (S67) → Int → Int → Int → Int → List (S67) → Option (Int × Int × Int × Int × (List (S67)))
 | 0, _, _, _, _, _, _, _, _, _, _, _, _ => none
 | k + 1,x1,x6,x169000,x169001,x169002,x169003,x169004,x171000,x171001,x171002,x171003,x171004=>if x6 < (x169004.length:Int) then (if 0≤x6 then (if ((rd_T67 x169004 x6).f0)=x1 then (spec_l18Without.l0 k x1 (wrap64 (x6 + 1)) x169000 x169001 x169002 x169003 x169004 x171000 x171001 x171002 x171003 x171004) else (if x171004.length < 2932031007402 then (spec_l18Without.l0 k x1 (wrap64 (x6 + 1)) x169000 x169001 x169002 x169003 x169004 x171000 x171001 x171002 x171003 (x171004 ++ [(⟨(rd_T67 x169004 x6).f0,(rd_T67 x169004 x6).f1,(rd_T67 x169004 x6).f2,(⟨(rd_T67 x169004 x6).f3.f0,(rd_T67 x169004 x6).f3.f1,(rd_T67 x169004 x6).f3.f2⟩:S31)⟩:S67)])) else (none))) else (none)) else (some (x171000,x171001,x171002,x171003,x171004))
def spec_l18Without.f (k : Nat) (a0_0 a0_1 a0_2 a0_3 : Int) (l0_4 : List (S67)) (a1 : Int) : Option (Int × Int × Int × Int × (List (S67))) := spec_l18Without.l0 k a1 0 a0_0 a0_1 a0_2 a0_3 l0_4 a0_0 a0_1 a0_2 a0_3 ([] : List (S67))
def spec_l18Without.T6 : Bool × List (List Nat × List Nat) := (true, [([], []), ([0], [0]), ([], []), ([2], [2]), ([], []), ([3, 4], [3, 4]), ([5], [5]), ([6], [6]), ([1, 7], [1, 7]), ([0, 1, 2, 3, 4, 5, 6, 7, 8], []), ([9, 8, 8, 0, 1, 2, 3, 4, 5, 6, 7, 8], [8, 9])])
def spec_l18Without.B6 : List Nat := [0, 1, 0, 4, 0, 28, 60, 124, 255, 511, 1023]
theorem spec_l18Without.tab6 : rtab .any (opsOf Try.f34 6) = spec_l18Without.T6 := by kernel_rfl
theorem spec_l18Without.bits6 : waitsOk spec_l18Without.T6.2 spec_l18Without.B6 = true := by kernel_rfl
set_option maxHeartbeats 8000000 in
set_option maxRecDepth 100000 in
theorem spec_l18Without.calls (k : Nat) (a0_0 a0_1 a0_2 a0_3 : Int) (A0_4 : Option Addr) (c0_4 : Nat) (l0_4 : List (S67)) (a1 r1 r2 r3 r4 : Int) (r5 : List (S67)) (w : World) (hr0_4 : Kd.C k67 w A0_4 l0_4.length l0_4) (hc0_4 : l0_4.length ≤ c0_4) (h : spec_l18Without.f k a0_0 a0_1 a0_2 a0_3 l0_4 a1 = some (r1, r2, r3, r4, r5)) :
  Calls Try.prog 34 #[.agg #[I L a0_0,I L a0_1,I L a0_2,I L a0_3,Y A0_4 l0_4.length c0_4],I L a1] w fun e w'=>∃ v4_:Value,e=.returned (.agg #[I L r1,I L r2,I L r3,I L r4,v4_])∧Kd.R k67 67 w' w.heap.size (fun _=>True) v4_ r5∧Below w.heap.size w w':=by
 have hu34 := Try.underlying34
 have hu31 := Try.underlying31
 have hu67 := Try.underlying67
 have HR0_4 := D hr0_4
 have HC0_4 := D hc0_4
 clear hr0_4 hc0_4
 have HB := D (Below.refl w.heap.size w)
 have H : (spec_l18Without.l0 k a1 0 a0_0 a0_1 a0_2 a0_3 l0_4 a0_0 a0_1 a0_2 a0_3 ([] : List (S67))) = some (r1, r2, r3, r4, r5) := h
 clear h
 have H' := D H
 clear H
 go_enter Try.func34, Try.ntmps34
 go_wp2_with (first|((with_reducible refine gate_dst (N:=2) rfl ?_);refine bx_ (N:=2) (cs:=#[I L a0_0,I L a0_1,I L a0_2,I L a0_3,Y A0_4 l0_4.length c0_4]) (t:=34) ?_;intro Ua hg w3 hbox hb;have n_:=an_ (below_step (pB_ HB.out) hb)<|an_ (hbox)<|an_ (bg_ hg (pB_ HB.out):w.heap.size≤Ua)<|D (bg_ hg (pB_ HB.out):w.heap.size≤Ua);clear HB;obtain ⟨HB,Ja,Kh,Mh⟩:=n_;clear hb hbox hg)|((with_reducible refine gate_dst (N:=4) rfl ?_);refine bx_ (N:=4) (cs:=#[I L 0,I L 0,I L 0,I L 0,Y none 0 0]) (t:=34) ?_;intro Ob hg w4 hbox hb;have n_:=an_ (blk_below (pk_ Ja.out) hb)<|an_ (below_step (pB_ HB.out) hb)<|an_ (hbox)<|an_ (bg_ hg (pB_ HB.out):w.heap.size≤Ob)<|an_ (bg_ hg (pB_ HB.out):w.heap.size≤Ob)<|an_ (nl_ hg (pk_ Ja.out):Ua≠Ob)<|D (by rw [hg];exact Nat.ne_of_gt (blk_lt (pk_ Ja.out)):Ob≠Ua);clear Ja HB;obtain ⟨Ja,HB,Ma,Oh,Uh,Xb,Jc⟩:=n_;clear hb hbox hg;(try have:=Xb.out);(try have:=Jc.out);have Md:=cells5 Ja.out)|((with_reducible refine gate_dst (N:=5) rfl ?_);refine bx_ (N:=5) (cs:=#[I L 0,I L 0,I L 0,I L 0,Y none 0 0]) (t:=34) ?_;intro Oa hg w7 hbox hb;have n_:=an_ (blk_below (pk_ Ja.out) hb)<|an_ (blk_below (pk_ Ma.out) hb)<|an_ (below_step (pB_ HB.out) hb)<|an_ (hbox)<|an_ (bg_ hg (pB_ HB.out):w.heap.size≤Oa)<|an_ (bg_ hg (pB_ HB.out):w.heap.size≤Oa)<|an_ (nl_ hg (pk_ Ja.out):Ua≠Oa)<|an_ (ng_ hg (pk_ Ja.out):Oa≠Ua)<|an_ (nl_ hg (pk_ Ma.out):Ob≠Oa)<|D (by rw [hg];exact Nat.ne_of_gt (blk_lt (pk_ Ma.out)):Oa≠Ob);clear Ja Ma HB;obtain ⟨Ja,Ma,HB,Ka,Xh,Ji,Jb,Ub,Kb,Kc⟩:=n_;clear hb hbox hg;(try have:=Ub.out);(try have:=Jb.out);(try have:=Kc.out);(try have:=Kb.out);have Jf:=cells5 Ka.out))
 go_loopg [6] k (fun kq v6 w'=>∃ (x6_1:Int) (Mb:List (S67)) (u171004:Value),v6=I L x6_1∧Aside0 (spec_l18Without.l0 kq a1 x6_1 a0_0 a0_1 a0_2 a0_3 l0_4 a0_0 a0_1 a0_2 a0_3 Mb=some (r1,r2,r3,r4,r5))∧Aside0 (kq≤k)∧Aside0 (Kd.R k67 67 w' w.heap.size (fun _=>True) u171004 Mb)∧Aside0 (w'.heap[Ua]?=some (.cells #[I L a0_0,I L a0_1,I L a0_2,I L a0_3,(Y A0_4 l0_4.length c0_4)] 34 (0,0)))∧Aside0 (w'.heap[Ob]?=some (.cells #[I L 0,I L 0,I L 0,I L 0,(Y none 0 0)] 34 (0,0)))∧Aside0 (w'.heap[Oa]?=some (.cells #[I L a0_0,I L a0_1,I L a0_2,I L a0_3,u171004] 34 (0,0)))∧Aside0 (Below w.heap.size w w'))
 case atStart=>exact ⟨(0),(([]:List (S67))),(Y none 0 0),Z51,H',⟨Nat.le_refl _⟩,⟨by first|exact Kd.R_nil _ _ _ _ _|exact Kd.N_nil _ _ _ _ _|exact Kd.V_nil _ _ _ _ _|exact Kd.Q_nil _ _ _ _ _|exact Kd.S_nil _ _ _ _ _⟩,⟨pP_ Ja.out⟩,⟨pP_ Ma.out⟩,⟨pP_ Ka.out⟩,⟨pB_ HB.out⟩⟩
 case round =>
  clear H'
  (try clear p2);(try clear c3);(try clear c5);(try clear c8);(try clear c9);(try clear Jf);(try clear Md)
  obtain ⟨x6_1, Mb, u171004, rfl, HA, HK1, Xa, Ja, Ma, Ka, HB⟩ := hrel
  cases gk with
  | zero => exact absurd HA.out (by simp [spec_l18Without.l0])
  | succ k1 =>
   have H := HA.out; clear HA; simp only [spec_l18Without.l0] at H
   by_cases c11 : x6_1 < (l0_4.length : Int)
   ·rw [if_pos c11] at H
    have c11b0 : decide (x6_1 < (l0_4.length : Int)) = true := decide_eq_true c11; clear c11
    by_cases c12 : 0 ≤ x6_1
    ·rw [if_pos c12] at H
     have c12b0:decide (0≤x6_1)=true:=decide_eq_true c12;clear c12;have HU13:=D H;clear H;(try have:=Xb.out);(try have:=Jc.out);(try have:=Jb.out);(try have:=Ub.out);have Ki:=cells5 Ja.out;have p171:0≤(x6_1:Int):=od_ Z50;have q171:x6_1 < (l0_4.length:Int):=od_ Z50;obtain ⟨ad171,e171,hx171_0,hx171_1,hx171_2,hx171_3,hx171_4,hx171_5⟩:=at_T67 HR0_4.out x6_1 p171 q171;cases e171;replace hx171_0:=rc_ HB.out hx171_0;replace hx171_1:=rc_ HB.out hx171_1;replace hx171_2:=rc_ HB.out hx171_2;replace hx171_3:=rc_ HB.out hx171_3;replace hx171_4:=rc_ HB.out hx171_4;replace hx171_5:=rc_ HB.out hx171_5;replace p171:=eq_true p171;replace q171:=eq_true q171
     go_upto_if 26 with (fail)
     have H := HU13.out; clear HU13
     by_cases c17 : ((rd_T67 l0_4 x6_1).f0) = a1
     ·rw [if_pos c17] at H
      have c17b0:(((rd_T67 l0_4 x6_1).f0) == a1)=true:=beq_iff_eq.mpr c17;have c17b1:(((rd_T67 l0_4 x6_1).f0) != a1)=false:=bne_eq_false_iff_eq.mpr c17;clear c17;refine rw_ c17b0 ?_;have H':=D H;clear H
      go_wp2
      go_roundg k1
      case measure => have := HK1.out; omega
      case rel => exact ⟨(wrap64 (x6_1 + 1)), (Mb), (u171004), Z51, H', ⟨by have := HK1.out; omega⟩, ⟨pR_ Xa.out⟩, ⟨pk_ Ja.out⟩, ⟨pk_ Ma.out⟩, ⟨pk_ Ka.out⟩, ⟨pB_ HB.out⟩⟩
     ·rw [if_neg c17] at H
      have c17b0:(((rd_T67 l0_4 x6_1).f0) == a1)=false:=beq_eq_false_iff_ne.mpr c17;have c17b1:(((rd_T67 l0_4 x6_1).f0) != a1)=true:=bne_iff_ne.mpr c17;refine rw_ c17b0 ?_
      by_cases c18 : Mb.length < 2932031007402
      ·rw [if_pos c18] at H
       have LMc18:=D c18;clear c18;obtain ⟨y173,hy173⟩:∃ y_:List (S67),y_=(Mb ++ [(⟨(rd_T67 l0_4 x6_1).f0,(rd_T67 l0_4 x6_1).f1,(rd_T67 l0_4 x6_1).f2,(⟨(rd_T67 l0_4 x6_1).f3.f0,(rd_T67 l0_4 x6_1).f3.f1,(rd_T67 l0_4 x6_1).f3.f2⟩:S31)⟩:S67)]):=⟨_,rfl⟩
       replace H:(spec_l18Without.l0 k1 a1 (wrap64 (x6_1 + 1)) a0_0 a0_1 a0_2 a0_3 l0_4 a0_0 a0_1 a0_2 a0_3 y173)=some (r1,r2,r3,r4,r5):=by first|(rw [hy173];with_reducible exact H)|(have H2_:=(Option.bind_some _ _).symm.trans H;rw [hy173];with_reducible exact H2_)|(have H2_:=(Option.bind_some _ _).symm.trans H;with_reducible exact H2_)|with_reducible exact H|(rw [hy173];exact H)|exact H
       have Ny173 := D hy173; clear hy173; have H' := D H; clear H
       try go_wp2
       have n_ := an_ (Kd.R_drew Xa.out) <| an_ (blk_drew Ja.out) <| an_ (blk_drew Ma.out) <| an_ (blk_drew Ka.out) <| D (below_drew1 HB.out)
       clear Xa Ja Ma Ka HB;obtain ⟨Xa,Ja,Ma,Ka,HB⟩:=n_;have p172:0≤(x6_1:Int):=od_ Z50;have q172:x6_1 < (l0_4.length:Int):=od_ Z50;obtain ⟨ad172,e172,hx172_0,hx172_1,hx172_2,hx172_3,hx172_4,hx172_5⟩:=at_T67 HR0_4.out x6_1 p172 q172;have hw172_5:=hx172_5;have hw172_4:=hx172_4;have hw172_3:=hx172_3;have hw172_2:=hx172_2;have hw172_1:=hx172_1;have hw172_0:=hx172_0;obtain rfl:ad171=ad172:=(by injection e172);replace hx172_0:=rc_ HB.out hx172_0;replace hx172_1:=rc_ HB.out hx172_1;replace hx172_2:=rc_ HB.out hx172_2;replace hx172_3:=rc_ HB.out hx172_3;replace hx172_4:=rc_ HB.out hx172_4;replace hx172_5:=rc_ HB.out hx172_5;replace p172:=eq_true p172;replace q172:=eq_true q172;refine start_ (n:=11) (S:=fun w'=>w'.cell? ⟨Oa,0,none⟩=some (I L a0_0)∧w'.cell? ⟨Oa,1,none⟩=some (I L a0_1)∧w'.cell? ⟨Oa,2,none⟩=some (I L a0_2)∧w'.cell? ⟨Oa,3,none⟩=some (I L a0_3)∧w'.cell? ⟨Oa,4,none⟩=some (u171004)∧w'.cell? ⟨Ua,0,none⟩=some (I L a0_0)∧w'.cell? ⟨Ua,1,none⟩=some (I L a0_1)∧w'.cell? ⟨Ua,2,none⟩=some (I L a0_2)∧w'.cell? ⟨Ua,3,none⟩=some (I L a0_3)∧w'.cell? ⟨Ua,4,none⟩=some (Y (some ad171) l0_4.length c0_4)∧w'.cell? (ad171.add ((x6_1).toNat * 6))=some (I L ((rd_T67 l0_4 x6_1).f0))∧w'.cell? ⟨(ad171.add ((x6_1).toNat * 6)).block,(ad171.add ((x6_1).toNat * 6)).off + 1,none⟩=some (I L ((rd_T67 l0_4 x6_1).f1))∧w'.cell? ⟨(ad171.add ((x6_1).toNat * 6)).block,(ad171.add ((x6_1).toNat * 6)).off + 2,none⟩=some (.bool ((rd_T67 l0_4 x6_1).f2))∧w'.cell? ⟨(ad171.add ((x6_1).toNat * 6)).block,(ad171.add ((x6_1).toNat * 6)).off + 3,none⟩=some (I L ((rd_T67 l0_4 x6_1).f3.f0))∧w'.cell? ⟨(ad171.add ((x6_1).toNat * 6)).block,(ad171.add ((x6_1).toNat * 6)).off + 4,none⟩=some (I L ((rd_T67 l0_4 x6_1).f3.f1))∧w'.cell? ⟨(ad171.add ((x6_1).toNat * 6)).block,(ad171.add ((x6_1).toNat * 6)).off + 5,none⟩=some (I L ((rd_T67 l0_4 x6_1).f3.f2))) (ds:=[10]) (bz 11 0) (by kernel_rfl) rfl (by kernel_rfl) (bk5_ Ka.out (bk5_ Ja.out (re6_ HB.out hw172_0 hw172_1 hw172_2 hw172_3 hw172_4 hw172_5))) (fun hHeld=>?_);refine with_tabW spec_l18Without.tab6 spec_l18Without.bits6 (fun HT_ HW_=>?_);generalize wr.drew=w19 at Xa Ja Ma Ka HB hx172_0 hx172_1 hx172_2 hx172_3 hx172_4 hx172_5 hHeld ⊢;refine pb_ 0 ?_;refine pb_ 2 ?_;refine pb_ 4 ?_;refine tb_ 1 rfl rfl hHeld Z24 ?_;refine tb_ 3 rfl rfl hHeld Z24 ?_;refine pb_ 5 ?_;refine tb_ 6 rfl rfl hHeld Z24 ?_
       refine oa_ 7 34 11 255 HT_ (fun K hK => ?_); refine value_ (w1 := ?_) (v := ?_) (by rfl) rfl ?_ ?_; rotate_left 2
       ·go_simp
        constructor
        ·rfl
        ·rfl
       refine hK.out _ _ ⟨(blk_cell (blk_alloc Ka.out _) 0).trans rfl,(blk_cell (blk_alloc Ka.out _) 1).trans rfl,(blk_cell (blk_alloc Ka.out _) 2).trans rfl,(blk_cell (blk_alloc Ka.out _) 3).trans rfl,(blk_cell (blk_alloc Ka.out _) 4).trans rfl,(blk_cell (blk_alloc Ja.out _) 0).trans rfl,(blk_cell (blk_alloc Ja.out _) 1).trans rfl,(blk_cell (blk_alloc Ja.out _) 2).trans rfl,(blk_cell (blk_alloc Ja.out _) 3).trans rfl,(blk_cell (blk_alloc Ja.out _) 4).trans rfl,(World.cell?_alloc_lt _ _ _ (World.block_lt_of_cell? _ _ ((rc_ HB.out hw172_0:)))).trans ((rc_ HB.out hw172_0:)),(World.cell?_alloc_lt _ _ _ (World.block_lt_of_cell? _ _ ((rc_ HB.out hw172_1:)))).trans ((rc_ HB.out hw172_1:)),(World.cell?_alloc_lt _ _ _ (World.block_lt_of_cell? _ _ ((rc_ HB.out hw172_2:)))).trans ((rc_ HB.out hw172_2:)),(World.cell?_alloc_lt _ _ _ (World.block_lt_of_cell? _ _ ((rc_ HB.out hw172_3:)))).trans ((rc_ HB.out hw172_3:)),(World.cell?_alloc_lt _ _ _ (World.block_lt_of_cell? _ _ ((rc_ HB.out hw172_4:)))).trans ((rc_ HB.out hw172_4:)),(World.cell?_alloc_lt _ _ _ (World.block_lt_of_cell? _ _ ((rc_ HB.out hw172_5:)))).trans ((rc_ HB.out hw172_5:))⟩ (fun hHeld=>?_);clear hK K;refine nx_ (N:=some 34) ?_;refine oa_ 8 35 11 511 HT_ (fun K hK=>?_);refine Kd.R_append_step k67 (w0:=w) w.heap.size (by rfl) (.tmp 28) (.tmp 34) 32 67 (.agg #[(I L 0),(I L 0),(.bool false),(I L 0),(I L 0),(I L 0)]) 48 rfl Try.underlying32 info67 rfl (by decide) (by omega) u171004 Mb (⟨(rd_T67 l0_4 x6_1).f0,(rd_T67 l0_4 x6_1).f1,(rd_T67 l0_4 x6_1).f2,(⟨(rd_T67 l0_4 x6_1).f3.f0,(rd_T67 l0_4 x6_1).f3.f1,(rd_T67 l0_4 x6_1).f3.f2⟩:S31)⟩:S67) [I L ((rd_T67 l0_4 x6_1).f0),I L ((rd_T67 l0_4 x6_1).f1),.bool ((rd_T67 l0_4 x6_1).f2),I L ((rd_T67 l0_4 x6_1).f3.f0),I L ((rd_T67 l0_4 x6_1).f3.f1),I L ((rd_T67 l0_4 x6_1).f3.f2)] (fun _=>True) (fun _=>False) rfl rfl ?aP (fun _ hk=>hk.elim) ?aF ?aO ?aB ?aS ?aL ?_;(case aP=>exact k67_mkM _ _ _ (⟨(rd_T67 l0_4 x6_1).f0,(rd_T67 l0_4 x6_1).f1,(rd_T67 l0_4 x6_1).f2,(⟨(rd_T67 l0_4 x6_1).f3.f0,(rd_T67 l0_4 x6_1).f3.f1,(rd_T67 l0_4 x6_1).f3.f2⟩:S31)⟩:S67));(case aB=>exact (pB_ HB.out));(case aF=>exact (fun _ _=>trivial));(case aO=>exact (pR_ Xa.out));(case aS=>exact (below_size (pB_ HB.out)));(case aL=>have:=LMc18.out;omega);intro Xj w20 ho hb hg hat;rw [← Ny173.out] at ho
       have n_:=an_ (blk_grown (pk_ Ja.out) hg (Kd.R_ne Xa.out Ja.out (by decide)))<|an_ (blk_grown (pk_ Ma.out) hg (Kd.R_ne Xa.out Ma.out (by decide)))<|an_ (blk_grown (pk_ Ka.out) hg (Kd.R_ne Xa.out Ka.out (by decide)))<|an_ (hb)<|D (ho)
       clear Ja Ma Ka HB Xa;obtain ⟨Ja,Ma,Ka,HB,Mc⟩:=n_;clear ho hb hg hat;obtain ⟨Oc,Uc,eo21⟩:=Kd.R_slice Mc.out;(first|subst eo21|obtain ⟨rfl,rfl⟩:=sl_inj eo21);refine hK.out _ _ (bk5_ Ka.out (bk5_ Ja.out (re6_ HB.out hw172_0 hw172_1 hw172_2 hw172_3 hw172_4 hw172_5))) (fun hHeld=>?_);clear hK K;refine nx_ (N:=some 35) ?_;refine pb_ 9 ?_;refine last_ (i:=10) (N:=none) (bz 11 2047) rfl rfl (one_of HT_.out (by kernel_rfl)) (by decide) (fun K hK=>?_);have hs22:w20.cell? ⟨Oa,4,none⟩=some (u171004):=bc_ Ka.out 4;have hfs22:=blk_frozen Ka.out 4;have hns22_0:=Jb.out;have hns22_1:=Kb.out;have hms22_0:=Ub.out;have hms22_1:=Kc.out;refine skip_ (w1:=?_) (by rfl) rfl ?_ ?_;rotate_left
       ·go_simp
        rfl
       refine hK.out _ _ ?_; clear hK K; refine done_ (done_of HT_.out (by kernel_rfl)) ?_
       try go_wp2
       go_roundg k1
       case measure => have := HK1.out; omega
       case rel=>exact ⟨(wrap64 (x6_1 + 1)),(y173),(Y Oc y173.length Uc),Z51,H',⟨by have:=HK1.out;omega⟩,⟨rM_ (Kd.R_types Mc.out Ka.out (by decide)) (fun _ hk=>trivial)⟩,⟨pP_ Ja.out⟩,⟨pP_ Ma.out⟩,⟨pP_ Ka.out⟩,⟨pB_ HB.out⟩⟩
      ·rw [if_neg c18] at H
       exact absurd H (by simp)
    ·rw [if_neg c12] at H
     exact absurd H (by simp)
   ·rw [if_neg c11] at H
    have c11b0:decide (x6_1 < (l0_4.length:Int))=false:=decide_eq_false c11;clear c11;simp only [Option.some.injEq,Prod.mk.injEq] at H;obtain ⟨rfl,rfl,rfl,rfl,rfl⟩:=H;(try have:=Xb.out);(try have:=Jc.out);(try have:=Jb.out);(try have:=Ub.out);have Jk:=cells5 Ja.out;(try have:=Kc.out);(try have:=Kb.out);have Um:=cells5 Ka.out;have Mo:=cells5 Ma.out;obtain ⟨Xc,Jd,eo29⟩:=Kd.R_slice Xa.out;subst eo29
    go_wp2
    refine bodyPost_ret (results_cell_row rfl _ _ Ob 34 #[I L a0_0,I L a0_1,I L a0_2,I L a0_3,Y Xc Mb.length Jd] (0,0) _ rfl (by exact pP_ Ma.out) Try.underlying34 rfl (by kernel_rfl)) rfl ?_;exact ⟨_,er_,by (with_reducible repeat (first|apply Kd.R_alloc|apply Kd.R_drewN|apply Kd.R_drew));exact Kd.R_mono (fr_ (fr_ (fr_ (fr_ (fr_ (Kd.R_types Xa.out Ma.out (by decide)) 0 (I L a0_0)) 1 (I L a0_1)) 2 (I L a0_2)) 3 (I L a0_3)) 4 (Y Xc Mb.length Jd)) (fun _ hk=>trivial),pB_ HB.out⟩

/-! ### spec_FairLeave: function 15 -/
def spec_FairLeave.f (k : Nat) (a0_0 a0_1 a0_2 a0_3 : Int) (l0_4 : List (S67)) (a1 : Int) : Option (Int × Int × Int × Int × (List (S67)) × Int) := (spec_FairOk.f k a0_0 a0_1 a0_2 a0_3 l0_4).bind fun Ug => (if Ug = true then ((spec_l18At.f k a0_0 a0_1 a0_2 a0_3 l0_4 a1).bind fun Xg => (if Xg < 0 then (some (0, 0, 0, 0, ([] : List (S67)), 4)) else ((spec_FairOwed.f k a0_0 a0_1 a0_2 a0_3 l0_4 a1).bind fun Jh => (if Jh = true then (some (0, 0, 0, 0, ([] : List (S67)), 5)) else ((spec_l18Without.f k a0_0 a0_1 a0_2 a0_3 l0_4 a1).bind fun bt181 => (some (bt181.1, bt181.2.1, bt181.2.2.1, bt181.2.2.2.1, bt181.2.2.2.2, 0))))))) else (some (0, 0, 0, 0, ([] : List (S67)), 1)))
set_option maxHeartbeats 8000000 in
set_option maxRecDepth 100000 in
theorem spec_FairLeave.calls (k : Nat) (a0_0 a0_1 a0_2 a0_3 : Int) (A0_4 : Option Addr) (c0_4 : Nat) (l0_4 : List (S67)) (a1 r1 r2 r3 r4 : Int) (r5 : List (S67)) (r6 : Int) (w : World) (hr0_4 : Kd.C k67 w A0_4 l0_4.length l0_4) (hc0_4 : l0_4.length ≤ c0_4) (h : spec_FairLeave.f k a0_0 a0_1 a0_2 a0_3 l0_4 a1 = some (r1, r2, r3, r4, r5, r6)) :
  Calls Try.prog 15 #[.agg #[I L a0_0,I L a0_1,I L a0_2,I L a0_3,Y A0_4 l0_4.length c0_4],I L a1] w fun e w'=>∃ v4_:Value,e=.returned (.tuple #[.agg #[I L r1,I L r2,I L r3,I L r4,v4_],I L r6])∧Kd.R k67 67 w' w.heap.size (fun _=>True) v4_ r5∧Below w.heap.size w w':=by
 have hu34 := Try.underlying34
 have HR0_4 := D hr0_4
 have HC0_4 := D hc0_4
 clear hr0_4 hc0_4
 have HB := D (Below.refl w.heap.size w)
 have H:((spec_FairOk.f k a0_0 a0_1 a0_2 a0_3 l0_4).bind fun t178=>(if t178=true then ((spec_l18At.f k a0_0 a0_1 a0_2 a0_3 l0_4 a1).bind fun t179=>(if t179 < 0 then (some (0,0,0,0,([]:List (S67)),4)) else ((spec_FairOwed.f k a0_0 a0_1 a0_2 a0_3 l0_4 a1).bind fun t180=>(if t180=true then (some (0,0,0,0,([]:List (S67)),5)) else ((spec_l18Without.f k a0_0 a0_1 a0_2 a0_3 l0_4 a1).bind fun bt181=>(some (bt181.1,bt181.2.1,bt181.2.2.1,bt181.2.2.2.1,bt181.2.2.2.2,0))))))) else (some (0,0,0,0,([]:List (S67)),1))))=some (r1,r2,r3,r4,r5,r6):=h
 clear h
 obtain ⟨t178, A30, H⟩ := bs_.mp H
 (try dsimp only at H)
 have A3 := D A30
 clear A30
 have HU4 := D H
 clear H
 go_enter Try.func15, Try.ntmps15
 go_upto_if 8 with (first|((with_reducible refine gate_dst (N:=2) rfl ?_);refine bx_ (N:=2) (cs:=#[I L a0_0,I L a0_1,I L a0_2,I L a0_3,Y A0_4 l0_4.length c0_4]) (t:=34) ?_;intro gb176 hg w5 hbox hb;have n_:=an_ (below_step (pB_ HB.out) hb)<|an_ (hbox)<|an_ (bg_ hg (pB_ HB.out):w.heap.size≤gb176)<|D (bg_ hg (pB_ HB.out):w.heap.size≤gb176);clear HB;obtain ⟨HB,BK176,GW176,GE176⟩:=n_;clear hb hbox hg)|((with_reducible refine gate_dst (N:=4) rfl ?_);refine bx_ (N:=4) (cs:=#[I L 0,I L 0,I L 0,I L 0,Y none 0 0]) (t:=34) ?_;intro gb177 hg w6 hbox hb;have n_:=an_ (blk_below (pk_ BK176.out) hb)<|an_ (below_step (pB_ HB.out) hb)<|an_ (hbox)<|an_ (bg_ hg (pB_ HB.out):w.heap.size≤gb177)<|an_ (bg_ hg (pB_ HB.out):w.heap.size≤gb177)<|an_ (nl_ hg (pk_ BK176.out):gb176≠gb177)<|D (by rw [hg];exact Nat.ne_of_gt (blk_lt (pk_ BK176.out)):gb177≠gb176);clear BK176 HB;obtain ⟨BK176,HB,BK177,GW177,GE177,NB176_177,NB177_176⟩:=n_;clear hb hbox hg;(try have:=NB176_177.out);(try have:=NB177_176.out);have hcz8_0:=cells5 BK176.out)|((with_reducible refine gate_callee (f:=30) rfl ?_);refine goesL_ (some 7) rfl rfl Try.func30 (by kernel_rfl) rfl #[.agg #[I L a0_0,I L a0_1,I L a0_2,I L a0_3,Y A0_4 l0_4.length c0_4]] rfl Z14 ?_;(with_reducible refine (spec_FairOk.calls k a0_0 a0_1 a0_2 a0_3 _ _ l0_4 t178 _ ?side1 ?side2 A3.out).mono ?_);(case side1=>exact pC_ (Kd.C_below HR0_4.out HB.out));(case side2=>exact HC0_4.out);rintro e w9 ⟨rfl,hb⟩;refine ⟨_,rfl,?_⟩;have n_:=an_ (blk_below (pk_ BK176.out) hb)<|an_ (blk_below (pk_ BK177.out) hb)<|D (below_step (pB_ HB.out) hb);clear BK176 BK177 HB;obtain ⟨BK176,BK177,HB⟩:=n_;(try clear hb)))
 have H := HU4.out
 clear HU4
 by_cases c10 : t178 = true
 ·subst c10
  rw [if_pos rfl] at H;obtain ⟨t179,A110,H⟩:=bs_.mp H;(try dsimp only at H);have A11:=D A110;clear A110;have HU12:=D H;clear H;(try have:=NB176_177.out);(try have:=NB177_176.out);have hcz14_0:=cells5 BK176.out
  go_upto_if 13 with (first|((with_reducible refine gate_callee (f:=32) rfl ?_);refine goesL_ (some 12) rfl rfl Try.func32 (by kernel_rfl) rfl #[.agg #[I L a0_0,I L a0_1,I L a0_2,I L a0_3,Y A0_4 l0_4.length c0_4],I L a1] rfl Z14 ?_;(with_reducible refine (spec_l18At.calls k a0_0 a0_1 a0_2 a0_3 _ _ l0_4 a1 t179 _ ?side1 ?side2 A11.out).mono ?_);(case side1=>exact pC_ (Kd.C_below HR0_4.out HB.out));(case side2=>exact HC0_4.out);rintro e w15 ⟨rfl,hb⟩;refine ⟨_,rfl,?_⟩;have n_:=an_ (blk_below (pk_ BK176.out) hb)<|an_ (blk_below (pk_ BK177.out) hb)<|D (below_step (pB_ HB.out) hb);clear BK176 BK177 HB;obtain ⟨BK176,BK177,HB⟩:=n_;(try clear hb)))
  have H := HU12.out; clear HU12
  by_cases c16 : t179 < 0
  ·rw [if_pos c16] at H
   have c16b0:decide (t179 < 0)=true:=decide_eq_true c16;clear c16;refine rw_ c16b0 ?_;simp only [Option.some.injEq,Prod.mk.injEq] at H;obtain ⟨rfl,rfl,rfl,rfl,rfl,rfl⟩:=H;(try have:=NB177_176.out);(try have:=NB176_177.out);have hcz18_0:=cells5 BK177.out
   go_wp2
   refine bodyPost_ret (results_ct rfl _ _ gb177 34 #[I L 0,I L 0,I L 0,I L 0,Y none 0 0] (0,0) _ rfl Z5 Try.underlying34 rfl (by kernel_rfl)) rfl ?_;exact ⟨_,er_,by first|exact Kd.R_nil _ _ _ _ _|exact Kd.N_nil _ _ _ _ _|exact Kd.V_nil _ _ _ _ _|exact Kd.Q_nil _ _ _ _ _|exact Kd.S_nil _ _ _ _ _,pB_ HB.out⟩
  ·rw [if_neg c16] at H
   have c16b0:decide (t179 < 0)=false:=decide_eq_false c16;clear c16;refine rw_ c16b0 ?_;obtain ⟨t180,A190,H⟩:=bs_.mp H;(try dsimp only at H);have A19:=D A190;clear A190;have HU20:=D H;clear H;(try have:=NB176_177.out);(try have:=NB177_176.out);have hcz22_0:=cells5 BK176.out
   go_upto_if 17 with (first|((with_reducible refine gate_callee (f:=33) rfl ?_);refine goesL_ (some 17) rfl rfl Try.func33 (by kernel_rfl) rfl #[.agg #[I L a0_0,I L a0_1,I L a0_2,I L a0_3,Y A0_4 l0_4.length c0_4],I L a1] rfl Z14 ?_;(with_reducible refine (spec_FairOwed.calls k a0_0 a0_1 a0_2 a0_3 _ _ l0_4 a1 t180 _ ?side1 ?side2 A19.out).mono ?_);(case side1=>exact pC_ (Kd.C_below HR0_4.out HB.out));(case side2=>exact HC0_4.out);rintro e w23 ⟨rfl,hb⟩;refine ⟨_,rfl,?_⟩;have n_:=an_ (blk_below (pk_ BK176.out) hb)<|an_ (blk_below (pk_ BK177.out) hb)<|D (below_step (pB_ HB.out) hb);clear BK176 BK177 HB;obtain ⟨BK176,BK177,HB⟩:=n_;(try clear hb)))
   have H := HU20.out; clear HU20
   by_cases c24 : t180 = true
   ·subst c24
    rw [if_pos rfl] at H;simp only [Option.some.injEq,Prod.mk.injEq] at H;obtain ⟨rfl,rfl,rfl,rfl,rfl,rfl⟩:=H;(try have:=NB177_176.out);(try have:=NB176_177.out);have hcz26_0:=cells5 BK177.out
    go_wp2
    refine bodyPost_ret (results_ct rfl _ _ gb177 34 #[I L 0,I L 0,I L 0,I L 0,Y none 0 0] (0,0) _ rfl Z5 Try.underlying34 rfl (by kernel_rfl)) rfl ?_;exact ⟨_,er_,by first|exact Kd.R_nil _ _ _ _ _|exact Kd.N_nil _ _ _ _ _|exact Kd.V_nil _ _ _ _ _|exact Kd.Q_nil _ _ _ _ _|exact Kd.S_nil _ _ _ _ _,pB_ HB.out⟩
   ·replace c24 := Bool.eq_false_iff.mpr c24
    subst c24;rw [if_neg (show ¬ (false=true) by decide)] at H;obtain ⟨⟨t181,t182,t183,t184,t185⟩,A270,H⟩:=bs_.mp H;(try dsimp only at H);have A27:=D A270;clear A270;simp only [Option.some.injEq,Prod.mk.injEq] at H;obtain ⟨rfl,rfl,rfl,rfl,rfl,rfl⟩:=H;(try have:=NB176_177.out);(try have:=NB177_176.out);have hcz29_0:=cells5 BK176.out
    go_wp2_with (first|((with_reducible refine gate_callee (f:=34) rfl ?_);refine goesL_ (some 21) rfl rfl Try.func34 (by kernel_rfl) rfl #[.agg #[I L a0_0,I L a0_1,I L a0_2,I L a0_3,Y A0_4 l0_4.length c0_4],I L a1] rfl Z14 ?_;(with_reducible refine (spec_l18Without.calls k a0_0 a0_1 a0_2 a0_3 _ _ l0_4 a1 t181 t182 t183 t184 t185 _ ?side1 ?side2 A27.out).mono ?_);(case side1=>exact pC_ (Kd.C_below HR0_4.out HB.out));(case side2=>exact HC0_4.out);rintro e w30 ⟨v186,rfl,ho0,hb⟩;refine ⟨_,rfl,?_⟩;have n_:=an_ (Kd.R_lower ho0 (below_size (pB_ HB.out)))<|an_ (blk_below (pk_ BK176.out) hb)<|an_ (blk_below (pk_ BK177.out) hb)<|D (below_step (pB_ HB.out) hb);clear BK176 BK177 HB;obtain ⟨HO187,BK176,BK177,HB⟩:=n_;(try clear hb);(try clear ho0);have hcz31_0:=cells5 BK177.out;obtain ⟨Ao32,co32,eo32⟩:=Kd.R_slice HO187.out;subst eo32))
    refine bodyPost_ret (results_ct rfl _ _ gb177 34 #[I L t181,I L t182,I L t183,I L t184,Y Ao32 t185.length co32] (0,0) _ rfl (by exact pP_ BK177.out) Try.underlying34 rfl (by kernel_rfl)) rfl ?_;exact ⟨_,er_,by (with_reducible repeat (first|apply Kd.R_alloc|apply Kd.R_drewN|apply Kd.R_drew));exact Kd.R_mono (fr_ (fr_ (fr_ (fr_ (fr_ (Kd.R_types HO187.out BK177.out (by decide)) 0 (I L t181)) 1 (I L t182)) 2 (I L t183)) 3 (I L t184)) 4 (Y Ao32 t185.length co32)) (fun _ hk=>trivial),pB_ HB.out⟩
 ·replace c10 := Bool.eq_false_iff.mpr c10
  subst c10;rw [if_neg (show ¬ (false=true) by decide)] at H;simp only [Option.some.injEq,Prod.mk.injEq] at H;obtain ⟨rfl,rfl,rfl,rfl,rfl,rfl⟩:=H;(try have:=NB177_176.out);(try have:=NB176_177.out);have hcz34_0:=cells5 BK177.out
  go_wp2
  refine bodyPost_ret (results_ct rfl _ _ gb177 34 #[I L 0,I L 0,I L 0,I L 0,Y none 0 0] (0,0) _ rfl Z5 Try.underlying34 rfl (by kernel_rfl)) rfl ?_;exact ⟨_,er_,by first|exact Kd.R_nil _ _ _ _ _|exact Kd.N_nil _ _ _ _ _|exact Kd.V_nil _ _ _ _ _|exact Kd.Q_nil _ _ _ _ _|exact Kd.S_nil _ _ _ _ _,pB_ HB.out⟩

/-! ### spec_l18Copy: function 35 -/
def spec_l18Copy.f (a0_0 a0_1 a0_2 a0_3 : Int) (l0_4 : List (S67)) : Option (Int × Int × Int × Int × (List (S67))) := (some (([] : List (S67)) : List (S67))).bind fun y190 => (if y190.length + l0_4.length < 2932031007402 then (some (a0_0, a0_1, a0_2, a0_3, (y190 ++ l0_4))) else (none))
def spec_l18Copy.T1 : Bool × List (List Nat × List Nat) := (true, [([], []), ([0], [0]), ([], []), ([2], [2]), ([], []), ([], []), ([5], [5]), ([4, 6], [4, 6]), ([1, 3, 7], [1, 3, 7]), ([8, 7, 0, 1, 2, 3, 4, 5, 6, 7, 8], [8])])
def spec_l18Copy.B1 : List Nat := [0, 1, 0, 4, 0, 0, 32, 112, 255, 511]
theorem spec_l18Copy.tab1 : rtab .any (opsOf Try.f35 1) = spec_l18Copy.T1 := by kernel_rfl
theorem spec_l18Copy.bits1 : waitsOk spec_l18Copy.T1.2 spec_l18Copy.B1 = true := by kernel_rfl
set_option maxHeartbeats 8000000 in
set_option maxRecDepth 100000 in
theorem spec_l18Copy.calls (a0_0 a0_1 a0_2 a0_3 : Int) (A0_4 : Option Addr) (c0_4 : Nat) (l0_4 : List (S67)) (r1 r2 r3 r4 : Int) (r5 : List (S67)) (w : World) (hr0_4 : Kd.C k67 w A0_4 l0_4.length l0_4) (hc0_4 : l0_4.length ≤ c0_4) (h : spec_l18Copy.f a0_0 a0_1 a0_2 a0_3 l0_4 = some (r1, r2, r3, r4, r5)) :
  Calls Try.prog 35 #[.agg #[I L a0_0,I L a0_1,I L a0_2,I L a0_3,Y A0_4 l0_4.length c0_4]] w fun e w'=>∃ v4_:Value,e=.returned (.agg #[I L r1,I L r2,I L r3,I L r4,v4_])∧Kd.R k67 67 w' w.heap.size (fun _=>True) v4_ r5∧Below w.heap.size w w':=by
 have hu34 := Try.underlying34
 have hu31 := Try.underlying31
 have HR0_4 := D hr0_4
 have HC0_4 := D hc0_4
 clear hr0_4 hc0_4
 have HB := D (Below.refl w.heap.size w)
 have H:((some (([]:List (S67)):List (S67))).bind fun y190=>(if y190.length + l0_4.length < 2932031007402 then (some (a0_0,a0_1,a0_2,a0_3,(y190 ++ l0_4))) else (none)))=some (r1,r2,r3,r4,r5):=h
 clear h
 obtain ⟨y190, hy190⟩ : ∃ y_ : List (S67), y_ = (([] : List (S67))) := ⟨_, rfl⟩
 replace H:(if y190.length + l0_4.length < 2932031007402 then (some (a0_0,a0_1,a0_2,a0_3,(y190 ++ l0_4))) else (none))=some (r1,r2,r3,r4,r5):=by first|(rw [hy190];with_reducible exact H)|(have H2_:=(Option.bind_some _ _).symm.trans H;rw [hy190];with_reducible exact H2_)|(have H2_:=(Option.bind_some _ _).symm.trans H;with_reducible exact H2_)|with_reducible exact H|(rw [hy190];exact H)|exact H
 have Ny190 := D hy190
 clear hy190
 by_cases c2 : y190.length + l0_4.length < 2932031007402
 ·rw [if_pos c2] at H
  have LMc2 := D c2; clear c2; obtain ⟨y193, hy193⟩ : ∃ y_ : List (S67), y_ = (y190 ++ l0_4) := ⟨_, rfl⟩
  replace H:(some (a0_0,a0_1,a0_2,a0_3,y193))=some (r1,r2,r3,r4,r5):=by first|(rw [hy193];with_reducible exact H)|(have H2_:=(Option.bind_some _ _).symm.trans H;rw [hy193];with_reducible exact H2_)|(have H2_:=(Option.bind_some _ _).symm.trans H;with_reducible exact H2_)|with_reducible exact H|(rw [hy193];exact H)|exact H
  have Ny193 := D hy193; clear hy193; simp only [Option.some.injEq, Prod.mk.injEq] at H; obtain ⟨rfl, rfl, rfl, rfl, rfl⟩ := H; go_enter Try.func35, Try.ntmps35
  try go_wp2_with (first|((with_reducible refine gate_dst (N:=1) rfl ?_);refine bx_ (N:=1) (cs:=#[I L a0_0,I L a0_1,I L a0_2,I L a0_3,Y A0_4 l0_4.length c0_4]) (t:=34) ?_;intro gb188 hg w3 hbox hb;have n_:=an_ (below_step (pB_ HB.out) hb)<|an_ (hbox)<|an_ (bg_ hg (pB_ HB.out):w.heap.size≤gb188)<|D (bg_ hg (pB_ HB.out):w.heap.size≤gb188);clear HB;obtain ⟨HB,BK188,GW188,GE188⟩:=n_;clear hb hbox hg)|((with_reducible refine gate_dst (N:=2) rfl ?_);refine bx_ (N:=2) (cs:=#[I L 0,I L 0,I L 0,I L 0,Y none 0 0]) (t:=34) ?_;intro gb189 hg w4 hbox hb;have n_:=an_ (blk_below (pk_ BK188.out) hb)<|an_ (below_step (pB_ HB.out) hb)<|an_ (hbox)<|an_ (bg_ hg (pB_ HB.out):w.heap.size≤gb189)<|an_ (bg_ hg (pB_ HB.out):w.heap.size≤gb189)<|an_ (nl_ hg (pk_ BK188.out):gb188≠gb189)<|D (by rw [hg];exact Nat.ne_of_gt (blk_lt (pk_ BK188.out)):gb189≠gb188);clear BK188 HB;obtain ⟨BK188,HB,BK189,GW189,GE189,NB188_189,NB189_188⟩:=n_;clear hb hbox hg))
  have n_ := an_ (blk_drew BK188.out) <| an_ (blk_drew BK189.out) <| D (below_drew1 HB.out)
  clear BK188 BK189 HB;obtain ⟨BK188,BK189,HB⟩:=n_;refine start_ (n:=10) (S:=fun w'=>w'.cell? ⟨gb188,0,none⟩=some (I L a0_0)∧w'.cell? ⟨gb188,1,none⟩=some (I L a0_1)∧w'.cell? ⟨gb188,2,none⟩=some (I L a0_2)∧w'.cell? ⟨gb188,3,none⟩=some (I L a0_3)∧w'.cell? ⟨gb188,4,none⟩=some (Y A0_4 l0_4.length c0_4)) (ds:=[]) (bz 10 0) (by kernel_rfl) rfl (by kernel_rfl) (be5_ BK188.out) (fun hHeld=>?_);refine with_tabW spec_l18Copy.tab1 spec_l18Copy.bits1 (fun HT_ HW_=>?_);generalize w4.drew=w5 at BK188 BK189 HB hHeld ⊢;refine pb_ 0 ?_;refine pb_ 2 ?_;refine pb_ 5 ?_;refine tb_ 1 rfl rfl hHeld Z48 ?_;refine tb_ 3 rfl rfl hHeld Z48 ?_;refine tb_ 6 rfl rfl hHeld Z48 ?_;refine oa_ 4 7 10 127 HT_ (fun K hK=>?_);refine Kd.R_lit_step k67 _ 67 ?hg (N:=7) ?hd (xs:=([]:List (S67))) (inner:=[]) (ok:=fun _=>True) (okp:=fun _=>True) ?hr ?hp (fun _ hk=>hk) trivial (Below.refl _ _) (Nat.le_refl _) (by simp) ?_;(case hd=>rfl);(case hg=>rfl);(case hr=>first|(go_simp;done)|(go_simp;rfl));(case hp=>exact (Reps.none _ _));intro v191 w6 ho7 hb hg_ hnew_;clear hg_ hnew_;(first|rw [← Ny190.out] at ho7|(simp only [Int.reduceToNat] at ho7;rw [← Ny190.out] at ho7))
  have n_ := an_ (Kd.R_lower ho7 (below_size (pB_ HB.out))) <| an_ (blk_below (pk_ BK188.out) hb) <| an_ (blk_below (pk_ BK189.out) hb) <| D (below_step (pB_ HB.out) hb)
  clear BK188 BK189 HB;obtain ⟨HO192,BK188,BK189,HB⟩:=n_;clear hb ho7;refine hK.out _ _ (be5_ BK188.out) (fun hHeld=>?_);clear hK K;refine nx_ (N:=some 7) ?_;refine oa_ 7 10 10 255 HT_ (fun K hK=>?_);refine Kd.R_append_rows_step k67 (w0:=w) w.heap.size (by rfl) (.tmp 7) (.tmp 9) 32 67 (.agg #[(I L 0),(I L 0),(.bool false),(I L 0),(I L 0),(I L 0)]) 48 rfl Try.underlying32 info67 rfl (by decide) (by omega) v191 y190 l0_4 _ _ _ (fun _=>True) (fun _=>False) rfl rfl ?aO ?aR (fun _ _ h=>h) (fun _ h=>h.elim) ?aF ?aB ?aS ?aL ?_;(case aR=>exact pC_ (Kd.C_below HR0_4.out HB.out));(case aB=>exact (pB_ HB.out));(case aF=>exact (fun _ _=>trivial));(case aO=>exact (pR_ HO192.out));(case aS=>exact (below_size (pB_ HB.out)));(case aL=>have:=LMc2.out;omega);intro v194 w8 ho hb hg hat;rw [← Ny193.out] at ho
  have n_ := an_ (blk_grown (pk_ BK188.out) hg (Kd.R_ne HO192.out BK188.out (by decide))) <| an_ (blk_grown (pk_ BK189.out) hg (Kd.R_ne HO192.out BK189.out (by decide))) <| an_ (hb) <| D (ho)
  clear BK188 BK189 HB HO192;obtain ⟨BK188,BK189,HB,HO195⟩:=n_;clear ho hb hg hat;obtain ⟨Ao9,co9,eo9⟩:=Kd.R_slice HO195.out;(first|subst eo9|obtain ⟨rfl,rfl⟩:=sl_inj eo9);refine hK.out _ _ (be5_ BK188.out) (fun hHeld=>?_);clear hK K;refine nx_ (N:=some 10) ?_;refine pb_ 8 ?_;refine one_ (i:=9) (N:=none) (bz 10 1023) rfl rfl (one_of HT_.out (by kernel_rfl)) (by decide) (fun K hK=>?_);have hs10:w8.cell? ⟨gb189,0,none⟩=some (I L 0):=bc_ BK189.out 0;have hfs10:=blk_frozen BK189.out 0;have hns10_0:=NB188_189.out;have hms10_0:=NB189_188.out;have hs11:w8.cell? ⟨gb189,1,none⟩=some (I L 0):=bc_ BK189.out 1;have hfs11:=blk_frozen BK189.out 1;have hns11_0:=NB188_189.out;have hms11_0:=NB189_188.out;have hs12:w8.cell? ⟨gb189,2,none⟩=some (I L 0):=bc_ BK189.out 2;have hfs12:=blk_frozen BK189.out 2;have hns12_0:=NB188_189.out;have hms12_0:=NB189_188.out;have hs13:w8.cell? ⟨gb189,3,none⟩=some (I L 0):=bc_ BK189.out 3;have hfs13:=blk_frozen BK189.out 3;have hns13_0:=NB188_189.out;have hms13_0:=NB189_188.out;have hs14:w8.cell? ⟨gb189,4,none⟩=some (Y none 0 0):=bc_ BK189.out 4;have hfs14:=blk_frozen BK189.out 4;have hns14_0:=NB188_189.out;have hms14_0:=NB189_188.out;refine skip_ (w1:=?_) (by rfl) rfl ?_ ?_;rotate_left
  ·go_simp
   rfl
  refine hK.out _ _ ⟨(cF_ NB188_189.out (hHeld.1)),(cF_ NB188_189.out (hHeld.2.1)),(cF_ NB188_189.out (hHeld.2.2.1)),(cF_ NB188_189.out (hHeld.2.2.2.1)),(cF_ NB188_189.out (hHeld.2.2.2.2))⟩ (fun hHeld=>?_);clear hK K;refine done_ (done_of HT_.out (by kernel_rfl)) ?_
  try go_wp2
  refine bodyPost_ret (results_cell_row rfl _ _ gb189 34 #[I L a0_0,I L a0_1,I L a0_2,I L a0_3,Y Ao9 y193.length co9] (0,0) _ rfl (by exact pP_ BK189.out) Try.underlying34 rfl (by kernel_rfl)) rfl ?_;exact ⟨_,er_,by (with_reducible repeat (first|apply Kd.R_alloc|apply Kd.R_drewN|apply Kd.R_drew));exact Kd.R_mono (fr_ (fr_ (fr_ (fr_ (fr_ (Kd.R_types HO195.out BK189.out (by decide)) 0 (I L a0_0)) 1 (I L a0_1)) 2 (I L a0_2)) 3 (I L a0_3)) 4 (Y Ao9 y193.length co9)) (fun _ hk=>trivial),pB_ HB.out⟩
 ·rw [if_neg c2] at H
  exact absurd H (by simp)

end Go.Proofs.Ytmloggnobgikdab.PFnExactTreeShed
