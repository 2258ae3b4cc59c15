-- by a program of this session's, over the kit's words
import Derived.Test.YtjfknflhajeglabPZFnExactTreeTenant
import Derived.Test.YtjfknflhajeglabPFnExactTreeTenantx0
import Derived.Test.YtjfknflhajeglabPFnExactTreeTenantx2
import Derived.Test.YtjfknflhajeglabPFnExactTreeTenantx3
namespace Go.Proofs.Ytjfknflhajeglab.PFnExactTreeTenant
open Go.RowKit Go.Proofs.YtjfknflhajeglabW.PrintWords Go.Proofs.YtjfknflhajeglabW.PrintLast Go.Proofs.YtjfknflhajeglabW.PrintMore Go.Proofs.YtjfknflhajeglabV Go.Proofs.Ytjfknflhajeglab.ZFnExactTreeTenant
open Go.Value renaming int → I, slice → Y
open Go.IntKind renaming i64 → L
open Aside0 renaming mk → D
open Option renaming bind_eq_some_iff → bs_
attribute [local go_sem] max2_int min2_int max_two min_two max_three min_three max_four min_four   -- for this text's walks alone
set_option linter.unusedVariables false
set_option linter.unusedSimpArgs false

/-! ### spec_TreeOk: function 13 -/
mutual
def spec_TreeOk.j0 : Nat → Bool → Int → Int → Int → Int → List (S51) → List (S54) → Option (Bool)
 | 0, _, _, _, _, _, _, _ => none
 | k + 1, x18, x143000, x143001, x143002, x143003, x143004, x143005 => if x18 = true then (some false) else (spec_TreeOk.l0 k 0 x143000 x143001 x143002 x143003 x143004 x143005)
def spec_TreeOk.l0 : Nat → Int → Int → Int → Int → Int → List (S51) → List (S54) → Option (Bool)
 | 0, _, _, _, _, _, _, _ => none
 | k + 1,x3,x143000,x143001,x143002,x143003,x143004,x143005=>if x3 < (x143005.length:Int) then (if 0≤x3 then (if x3 < (x143004.length:Int) then (if ((rd_T54 x143005 x3).f0)=((rd_T51 x143004 x3).f0) then (if ((rd_T54 x143005 x3).f1.f0)=x143000 then ((spec_FairOk.f k ((rd_T54 x143005 x3).f1.f0) ((rd_T54 x143005 x3).f1.f1.f0) ((rd_T54 x143005 x3).f1.f1.f1) ((rd_T54 x143005 x3).f1.f1.f2) ((rd_T54 x143005 x3).f1.f2)).bind fun t147=>(spec_TreeOk.j2 k x3 (!t147) x143000 x143001 x143002 x143003 x143004 x143005 ((rd_T54 x143005 x3).f0) ((rd_T54 x143005 x3).f1.f0) ((rd_T54 x143005 x3).f1.f1.f0) ((rd_T54 x143005 x3).f1.f1.f1) ((rd_T54 x143005 x3).f1.f1.f2) ((rd_T54 x143005 x3).f1.f2))) else (spec_TreeOk.j2 k x3 true x143000 x143001 x143002 x143003 x143004 x143005 ((rd_T54 x143005 x3).f0) ((rd_T54 x143005 x3).f1.f0) ((rd_T54 x143005 x3).f1.f1.f0) ((rd_T54 x143005 x3).f1.f1.f1) ((rd_T54 x143005 x3).f1.f1.f2) ((rd_T54 x143005 x3).f1.f2))) else (spec_TreeOk.j2 k x3 true x143000 x143001 x143002 x143003 x143004 x143005 ((rd_T54 x143005 x3).f0) ((rd_T54 x143005 x3).f1.f0) ((rd_T54 x143005 x3).f1.f1.f0) ((rd_T54 x143005 x3).f1.f1.f1) ((rd_T54 x143005 x3).f1.f1.f2) ((rd_T54 x143005 x3).f1.f2))) else (none)) else (none)) else (some true)
def spec_TreeOk.j2 : Nat → Int → Bool → Int → Int → Int → Int → List (S51) → List (S54) → Int → Int → Int → Int → Int → List (S51) → Option (Bool)
 | 0, _, _, _, _, _, _, _, _, _, _, _, _, _, _ => none
 | k + 1,x3,x55,x143000,x143001,x143002,x143003,x143004,x143005,x146000,x146001,x146002,x146003,x146004,x146005=>if x55=true then (some false) else (if 0≤x3 then (if x3 < (x143004.length:Int) then ((spec_l19Busy.f k x146001 x146002 x146003 x146004 x146005).bind fun t149=>(if (((rd_T51 x143004 x3).f2) != (decide ((t149.length:Int) > 0)))=true then (some false) else (spec_TreeOk.l0 k (wrap64 (x3 + 1)) x143000 x143001 x143002 x143003 x143004 x143005))) else (none)) else (none))
end
def spec_TreeOk.f (k : Nat) (a0_0 a0_1 a0_2 a0_3 : Int) (l0_4 : List (S51)) (l0_5 : List (S54)) : Option (Bool) := (spec_FairOk.f k a0_0 a0_1 a0_2 a0_3 l0_4).bind fun t143 => (if t143 = true then (spec_TreeOk.j0 k ((l0_5.length : Int) != (l0_4.length : Int)) a0_0 a0_1 a0_2 a0_3 l0_4 l0_5) else (spec_TreeOk.j0 k true a0_0 a0_1 a0_2 a0_3 l0_4 l0_5))
def spec_TreeOk.T7 : Bool × List (List Nat × List Nat) := (true, [([], []), ([0], [0]), ([], []), ([2], [2]), ([3], [3]), ([], []), ([4, 5], [4, 5]), ([6], [6]), ([7], [7]), ([1, 8], [1, 8]), ([9], [9]), ([10], [10]), ([11, 10], [10, 11]), ([12, 10], [10, 12]), ([10], [10]), ([14, 10], [10, 14]), ([15, 10], [10, 15]), ([13, 16, 10], [10, 13, 16]), ([10, 17], [10, 17]), ([18, 10], [18]), ([19], [19]), ([20, 19], [19, 20]), ([21, 19, 19], [19, 21]), ([22, 19], [19, 22]), ([19, 23], [19, 23])])
def spec_TreeOk.B7 : List Nat := [0, 1, 0, 4, 12, 0, 60, 124, 252, 511, 1023, 2047, 4095, 8191, 2047, 18431, 51199, 131071, 262143, 524287, 1048575, 2097151, 4194303, 8388607, 16777215]
theorem spec_TreeOk.tab7 : rtab .any (opsOf Try.f13 7) = spec_TreeOk.T7 := by kernel_rfl
theorem spec_TreeOk.bits7 : waitsOk spec_TreeOk.T7.2 spec_TreeOk.B7 = true := by kernel_rfl
def spec_TreeOk.T9 : Bool × List (List Nat × List Nat) := (true, [([], []), ([0], [0]), ([1], [1]), ([], []), ([2, 3], [2, 3]), ([4], [4]), ([5], [5]), ([], []), ([7], [7]), ([8], [8]), ([9], [9]), ([10], [10]), ([6, 11], [6, 11])])
def spec_TreeOk.B9 : List Nat := [0, 1, 3, 0, 15, 31, 63, 0, 128, 384, 896, 1920, 4095]
theorem spec_TreeOk.tab9 : rtab .any (opsOf Try.f13 9) = spec_TreeOk.T9 := by kernel_rfl
theorem spec_TreeOk.bits9 : waitsOk spec_TreeOk.T9.2 spec_TreeOk.B9 = true := by kernel_rfl
set_option maxHeartbeats 8000000 in
set_option maxRecDepth 100000 in
theorem spec_TreeOk.calls (k : Nat) (a0_0 a0_1 a0_2 a0_3 : Int) (A0_4 : Option Addr) (c0_4 : Nat) (l0_4 : List (S51)) (A0_5 : Option Addr) (c0_5 : Nat) (l0_5 : List (S54)) (r : Bool) (w : World) (hr0_4 : Kd.C k51 w A0_4 l0_4.length l0_4) (hc0_4 : l0_4.length ≤ c0_4) (hr0_5 : Kd.C k54 w A0_5 l0_5.length l0_5) (hc0_5 : l0_5.length ≤ c0_5) (h : spec_TreeOk.f k a0_0 a0_1 a0_2 a0_3 l0_4 l0_5 = some r) :
  Calls Try.prog 13 #[.agg #[I L a0_0,I L a0_1,I L a0_2,I L a0_3,Y A0_4 l0_4.length c0_4,Y A0_5 l0_5.length c0_5]] w fun e w'=>e=.returned (.bool r)∧Below w.heap.size w w':=by
 have hu37 := Try.underlying37
 have hu34 := Try.underlying34
 have hu54 := Try.underlying54
 have HR0_4 := D hr0_4
 have HC0_4 := D hc0_4
 clear hr0_4 hc0_4
 have HR0_5 := D hr0_5
 have HC0_5 := D hc0_5
 clear hr0_5 hc0_5
 have HB := D (Below.refl w.heap.size w)
 have H:((spec_FairOk.f k a0_0 a0_1 a0_2 a0_3 l0_4).bind fun Mb=>(if Mb=true then (spec_TreeOk.j0 k ((l0_5.length:Int) != (l0_4.length:Int)) a0_0 a0_1 a0_2 a0_3 l0_4 l0_5) else (spec_TreeOk.j0 k true a0_0 a0_1 a0_2 a0_3 l0_4 l0_5)))=some r:=h
 clear h
 have HC2 := D H
 clear H
 go_enter Try.func13, Try.ntmps13
 go_upto_region 1 with (first|((with_reducible refine gate_dst (N:=1) rfl ?_);(try (refine gate_guard (by rfl) ?_;dsimp only));refine bx_ (N:=1) (cs:=#[I L a0_0,I L a0_1,I L a0_2,I L a0_3,Y A0_4 l0_4.length c0_4,Y A0_5 l0_5.length c0_5]) (t:=37) ?_;intro Oa hg w3 hbox hb;have n_:=an_ (below_step (pB_ HB.out) hb)<|an_ (hbox)<|an_ (bg_ hg (pB_ HB.out):w.heap.size≤Oa)<|D (bg_ hg (pB_ HB.out):w.heap.size≤Oa);clear HB;obtain ⟨HB,Ka,Kn,Mn⟩:=n_;clear hb hbox hg))
 (try simp only [Act.put, List.setIfInBounds_toArray, List.set_cons_zero, List.set_cons_succ])
 go_cut [18] (fun v18 wc=>∃ (kq:Nat) (Jb:Bool),v18=.bool Jb∧Aside0 (spec_TreeOk.j0 kq Jb a0_0 a0_1 a0_2 a0_3 l0_4 l0_5=some r)∧Aside0 (kq≤k)∧Aside0 (wc.heap[Oa]?=some (.cells #[I L a0_0,I L a0_1,I L a0_2,I L a0_3,(Y A0_4 l0_4.length c0_4),(Y A0_5 l0_5.length c0_5)] 37 (0,0)))∧Aside0 (Below w.heap.size w wc))
 case first =>
  have H := HC2.out; clear HC2; obtain ⟨Mb, A40, H⟩ := bs_.mp H; (try dsimp only at H); have A4 := D A40; clear A40
  by_cases c5 : Mb = true
  ·subst c5
   rw [if_pos rfl] at H; have H' := D H; clear H; obtain ⟨Ob, Ub, Xb, Jc, Kc, Mc, Oc, Uc, Xc, Jd, Md, Od⟩ := cells6 Ka.out
   go_wp2_with (first|((with_reducible refine gate_callee (f:=34) rfl ?_);refine goesL_ (some 7) rfl rfl Try.func34 (by kernel_rfl) rfl #[.agg #[I L a0_0,I L a0_1,I L a0_2,I L a0_3,Y A0_4 l0_4.length c0_4]] rfl Z21 ?_;(with_reducible refine (spec_FairOk.calls k a0_0 a0_1 a0_2 a0_3 _ _ l0_4 true _ ?side1 ?side2 A4.out).mono ?_);(case side1=>exact pC_ (Kd.C_below HR0_4.out HB.out));(case side2=>exact HC0_4.out);rintro e w7 ⟨rfl,hb⟩;refine ⟨_,rfl,?_⟩;have n_:=an_ (blk_below (pk_ Ka.out) hb)<|D (below_step (pB_ HB.out) hb);clear Ka HB;obtain ⟨Ka,HB⟩:=n_;(try clear hb);have Ud:=cells6 Ka.out))
   go_meet
   case rel => exact ⟨_, (((l0_5.length : Int) != (l0_4.length : Int))), Z53, H', ⟨by first | omega | exact Nat.le_refl _⟩, ⟨pk_ Ka.out⟩, ⟨pB_ HB.out⟩⟩
  ·replace c5 := Bool.eq_false_iff.mpr c5
   subst c5; rw [if_neg (show ¬ (false = true) by decide)] at H; have H' := D H; clear H; obtain ⟨Uf, Xf, Jg, Kg, Mg, Og, Ug, Xg, Jh, Kh, Mh, Oh⟩ := cells6 Ka.out
   go_wp2_with (first|((with_reducible refine gate_callee (f:=34) rfl ?_);refine goesL_ (some 7) rfl rfl Try.func34 (by kernel_rfl) rfl #[.agg #[I L a0_0,I L a0_1,I L a0_2,I L a0_3,Y A0_4 l0_4.length c0_4]] rfl Z21 ?_;(with_reducible refine (spec_FairOk.calls k a0_0 a0_1 a0_2 a0_3 _ _ l0_4 false _ ?side1 ?side2 A4.out).mono ?_);(case side1=>exact pC_ (Kd.C_below HR0_4.out HB.out));(case side2=>exact HC0_4.out);rintro e w10 ⟨rfl,hb⟩;refine ⟨_,rfl,?_⟩;have n_:=an_ (blk_below (pk_ Ka.out) hb)<|D (below_step (pB_ HB.out) hb);clear Ka HB;obtain ⟨Ka,HB⟩:=n_;(try clear hb)))
   go_meet
   case rel => exact ⟨_, (true), Z53, H', ⟨by first | omega | exact Nat.le_refl _⟩, ⟨pk_ Ka.out⟩, ⟨pB_ HB.out⟩⟩
 case rest =>
  clear HC2
  (try clear c1);(try clear p2);(try clear c3);(try clear c5);(try clear Ob Ub Xb Jc Kc Mc Oc Uc Xc Jd Md Od);(try clear Ud);(try clear Uf Xf Jg Kg Mg Og Ug Xg Jh Kh Mh Oh)
  obtain ⟨kq, Jb, rfl, HA, HJ1, Ka, HB⟩ := hcut
  cases kq with
  | zero => exact absurd HA.out (by simp [spec_TreeOk.j0])
  | succ kj1 =>
   have H := HA.out; clear HA; simp only [spec_TreeOk.j0] at H
   by_cases c11 : Jb = true
   ·subst c11
    rw [if_pos rfl] at H; obtain rfl := Option.some.inj H
    go_wp2
    go_ret; exact ⟨er_, pB_ HB.out⟩
   ·replace c11 := Bool.eq_false_iff.mpr c11
    subst c11; rw [if_neg (show ¬ (false = true) by decide)] at H; have H' := D H; clear H
    go_wp2
    go_loopg [3] kj1 (fun kq v3 w'=>∃ (x3_2:Int),v3=I L x3_2∧Aside0 (spec_TreeOk.l0 kq x3_2 a0_0 a0_1 a0_2 a0_3 l0_4 l0_5=some r)∧Aside0 (kq≤kj1)∧Aside0 (w'.heap[Oa]?=some (.cells #[I L a0_0,I L a0_1,I L a0_2,I L a0_3,(Y A0_4 l0_4.length c0_4),(Y A0_5 l0_5.length c0_5)] 37 (0,0)))∧Aside0 (Below w.heap.size w w'))
    case atStart => exact ⟨(0), Z53, H', ⟨Nat.le_refl _⟩, ⟨pk_ Ka.out⟩, ⟨pB_ HB.out⟩⟩
    case round =>
     clear H'
     (try clear c1);(try clear p2);(try clear c3);(try clear c5);(try clear c11);(try clear Ob Ub Xb Jc Kc Mc Oc Uc Xc Jd Md Od);(try clear Ud);(try clear Uf Xf Jg Kg Mg Og Ug Xg Jh Kh Mh Oh);(try clear p2)
     obtain ⟨x3_2, rfl, HA, HK2, Ka, HB⟩ := hrel
     cases gk with
     | zero => exact absurd HA.out (by simp [spec_TreeOk.l0])
     | succ k2 =>
      have H := HA.out; clear HA; simp only [spec_TreeOk.l0] at H
      by_cases c12 : x3_2 < (l0_5.length : Int)
      ·rw [if_pos c12] at H
       have c12b0 : decide (x3_2 < (l0_5.length : Int)) = true := decide_eq_true c12; clear c12
       by_cases c13 : 0 ≤ x3_2
       ·rw [if_pos c13] at H
        have c13b0:decide (0≤x3_2)=true:=decide_eq_true c13;clear c13;have HC14:=D H;clear H;have Xh:=cells6 Ka.out;have p144:0≤(x3_2:Int):=od_ Z52;have q144:x3_2 < (l0_5.length:Int):=od_ Z52;obtain ⟨ad144,A144_5,c144_5,e144,hx144_0,hx144_1,hx144_2,hx144_3,hx144_4,hx144_5,hl144_5,hi144_5⟩:=at_T54 HR0_5.out x3_2 p144 q144;cases e144;replace hx144_0:=rc_ HB.out hx144_0;replace hx144_1:=rc_ HB.out hx144_1;replace hx144_2:=rc_ HB.out hx144_2;replace hx144_3:=rc_ HB.out hx144_3;replace hx144_4:=rc_ HB.out hx144_4;replace hx144_5:=rc_ HB.out hx144_5;have HR144_5:=D hi144_5;have HC144_5:=D hl144_5;clear hi144_5 hl144_5;replace p144:=eq_true p144;replace q144:=eq_true q144
        go_upto_region 7 with (first|((with_reducible refine gate_dst (N:=4) rfl ?_);(try (refine gate_guard (by rfl) ?_;dsimp only));refine bx_ (N:=4) (cs:=#[I L 0,I L 0,I L 0,I L 0,I L 0,Y none 0 0]) (t:=54) ?_;intro Ja hg w16 hbox hb;have n_:=an_ (blk_below (pk_ Ka.out) hb)<|an_ (below_step (pB_ HB.out) hb)<|an_ (hbox)<|an_ (bg_ hg (pB_ HB.out):w.heap.size≤Ja)<|an_ (bg_ hg (pB_ HB.out):w.heap.size≤Ja)<|an_ (nl_ hg (pk_ Ka.out):Oa≠Ja)<|D (by rw [hg];exact Nat.ne_of_gt (blk_lt (pk_ Ka.out)):Ja≠Oa);clear Ka HB;obtain ⟨Ka,HB,Ma,On,Un,Ua,Xj⟩:=n_;clear hb hbox hg;(try have:=Xj.out);(try have:=Ua.out);have Jk:=cells6 Ma.out))
        (try simp only [Act.put, List.setIfInBounds_toArray, List.set_cons_zero, List.set_cons_succ])
        go_cut [55] (fun v55 wc=>∃ (kq:Nat) (Kb:Bool),v55=.bool Kb∧Aside0 (spec_TreeOk.j2 kq x3_2 Kb a0_0 a0_1 a0_2 a0_3 l0_4 l0_5 ((rd_T54 l0_5 x3_2).f0) ((rd_T54 l0_5 x3_2).f1.f0) ((rd_T54 l0_5 x3_2).f1.f1.f0) ((rd_T54 l0_5 x3_2).f1.f1.f1) ((rd_T54 l0_5 x3_2).f1.f1.f2) ((rd_T54 l0_5 x3_2).f1.f2)=some r)∧Aside0 (kq≤k2)∧Aside0 (wc.heap[Oa]?=some (.cells #[I L a0_0,I L a0_1,I L a0_2,I L a0_3,(Y A0_4 l0_4.length c0_4),(Y (some ad144) l0_5.length c0_5)] 37 (0,0)))∧Aside0 (wc.heap[Ja]?=some (.cells #[I L ((rd_T54 l0_5 x3_2).f0),I L ((rd_T54 l0_5 x3_2).f1.f0),I L ((rd_T54 l0_5 x3_2).f1.f1.f0),I L ((rd_T54 l0_5 x3_2).f1.f1.f1),I L ((rd_T54 l0_5 x3_2).f1.f1.f2),(Y A144_5 ((rd_T54 l0_5 x3_2).f1.f2).length c144_5)] 54 (0,0)))∧Aside0 (Below w.heap.size w wc))
        case first =>
         have H := HC14.out; clear HC14
         by_cases c19 : x3_2 < (l0_4.length : Int)
         ·rw [if_pos c19] at H
          have c19b0:decide (x3_2 < (l0_4.length:Int))=true:=decide_eq_true c19;clear c19;refine rw_ c19b0 ?_
          by_cases c20 : ((rd_T54 l0_5 x3_2).f0) = ((rd_T51 l0_4 x3_2).f0)
          ·rw [if_pos c20] at H
           have c20b0:(((rd_T54 l0_5 x3_2).f0) == ((rd_T51 l0_4 x3_2).f0))=true:=beq_iff_eq.mpr c20;have c20b1:(((rd_T54 l0_5 x3_2).f0) != ((rd_T51 l0_4 x3_2).f0))=false:=bne_eq_false_iff_eq.mpr c20;clear c20
           by_cases c21 : ((rd_T54 l0_5 x3_2).f1.f0) = a0_0
           ·rw [if_pos c21] at H
            have c21b0:(((rd_T54 l0_5 x3_2).f1.f0) == a0_0)=true:=beq_iff_eq.mpr c21;have c21b1:(((rd_T54 l0_5 x3_2).f1.f0) != a0_0)=false:=bne_eq_false_iff_eq.mpr c21;clear c21;obtain ⟨Uh,A220,H⟩:=bs_.mp H;(try dsimp only at H);have A22:=D A220;clear A220;have H':=D H;clear H
            try go_wp2
            obtain ⟨w23,hq_⟩:∃ W_,W_=((((((w16.setCell ⟨Ja,0,none⟩ (I L ((rd_T54 l0_5 x3_2).f0))).setCell ⟨Ja,1,none⟩ (I L ((rd_T54 l0_5 x3_2).f1.f0))).setCell ⟨Ja,2,none⟩ (I L ((rd_T54 l0_5 x3_2).f1.f1.f0))).setCell ⟨Ja,3,none⟩ (I L ((rd_T54 l0_5 x3_2).f1.f1.f1))).setCell ⟨Ja,4,none⟩ (I L ((rd_T54 l0_5 x3_2).f1.f1.f2))).setCell ⟨Ja,5,none⟩ (Y A144_5 ((rd_T54 l0_5 x3_2).f1.f2).length c144_5)):=⟨_,rfl⟩;have n0_:Aside0 (w23.heap[Oa]?=some (.cells #[I L a0_0,I L a0_1,I L a0_2,I L a0_3,Y A0_4 l0_4.length c0_4,Y (some ad144) l0_5.length c0_5] 37 (0,0))):=⟨by rw [hq_];exact pP_ Ka.out⟩;have n1_:Aside0 (w23.heap[Ja]?=some (.cells #[I L ((rd_T54 l0_5 x3_2).f0),I L ((rd_T54 l0_5 x3_2).f1.f0),I L ((rd_T54 l0_5 x3_2).f1.f1.f0),I L ((rd_T54 l0_5 x3_2).f1.f1.f1),I L ((rd_T54 l0_5 x3_2).f1.f1.f2),Y A144_5 ((rd_T54 l0_5 x3_2).f1.f2).length c144_5] 54 (0,0))):=⟨by rw [hq_];exact pP_ Ma.out⟩;have n2_:Aside0 (Below w.heap.size w w23):=⟨by rw [hq_];exact pB_ HB.out⟩;(try clear Ka);(try clear Ma);(try clear HB);(try rw [←hq_]);clear hq_;have Ka:=n0_;have Ma:=n1_;have HB:=n2_;clear n0_ n1_ n2_
            have n_ := an_ (blk_drew Ka.out) <| an_ (blk_drew Ma.out) <| D (below_drew1 HB.out)
            clear Ka Ma HB;obtain ⟨Ka,Ma,HB⟩:=n_;have p146:0≤(x3_2:Int):=od_ Z52;have q146:x3_2 < (l0_4.length:Int):=od_ Z52;obtain ⟨ad146,e146,hx146_0,hx146_1,hx146_2,hx146_3,hx146_4,hx146_5⟩:=at_T51 HR0_4.out x3_2 p146 q146;have hw146_5:=hx146_5;have hw146_4:=hx146_4;have hw146_3:=hx146_3;have hw146_2:=hx146_2;have hw146_1:=hx146_1;have hw146_0:=hx146_0;cases e146;replace hx146_0:=rc_ HB.out hx146_0;replace hx146_1:=rc_ HB.out hx146_1;replace hx146_2:=rc_ HB.out hx146_2;replace hx146_3:=rc_ HB.out hx146_3;replace hx146_4:=rc_ HB.out hx146_4;replace hx146_5:=rc_ HB.out hx146_5;replace p146:=eq_true p146;replace q146:=eq_true q146;refine start_ (n:=25) (S:=fun w'=>w'.cell? ⟨Ja,0,none⟩=some (I L ((rd_T54 l0_5 x3_2).f0))∧w'.cell? ⟨Ja,1,none⟩=some (I L ((rd_T54 l0_5 x3_2).f1.f0))∧w'.cell? ⟨Ja,2,none⟩=some (I L ((rd_T54 l0_5 x3_2).f1.f1.f0))∧w'.cell? ⟨Ja,3,none⟩=some (I L ((rd_T54 l0_5 x3_2).f1.f1.f1))∧w'.cell? ⟨Ja,4,none⟩=some (I L ((rd_T54 l0_5 x3_2).f1.f1.f2))∧w'.cell? ⟨Ja,5,none⟩=some (Y A144_5 ((rd_T54 l0_5 x3_2).f1.f2).length c144_5)∧w'.cell? ⟨Oa,0,none⟩=some (I L a0_0)∧w'.cell? ⟨Oa,1,none⟩=some (I L a0_1)∧w'.cell? ⟨Oa,2,none⟩=some (I L a0_2)∧w'.cell? ⟨Oa,3,none⟩=some (I L a0_3)∧w'.cell? ⟨Oa,4,none⟩=some (Y (some ad146) l0_4.length c0_4)∧w'.cell? ⟨Oa,5,none⟩=some (Y (some ad144) l0_5.length c0_5)∧w'.cell? (ad146.add ((x3_2).toNat * 6))=some (I L ((rd_T51 l0_4 x3_2).f0))∧w'.cell? ⟨(ad146.add ((x3_2).toNat * 6)).block,(ad146.add ((x3_2).toNat * 6)).off + 1,none⟩=some (I L ((rd_T51 l0_4 x3_2).f1))∧w'.cell? ⟨(ad146.add ((x3_2).toNat * 6)).block,(ad146.add ((x3_2).toNat * 6)).off + 2,none⟩=some (.bool ((rd_T51 l0_4 x3_2).f2))∧w'.cell? ⟨(ad146.add ((x3_2).toNat * 6)).block,(ad146.add ((x3_2).toNat * 6)).off + 3,none⟩=some (I L ((rd_T51 l0_4 x3_2).f3.f0))∧w'.cell? ⟨(ad146.add ((x3_2).toNat * 6)).block,(ad146.add ((x3_2).toNat * 6)).off + 4,none⟩=some (I L ((rd_T51 l0_4 x3_2).f3.f1))∧w'.cell? ⟨(ad146.add ((x3_2).toNat * 6)).block,(ad146.add ((x3_2).toNat * 6)).off + 5,none⟩=some (I L ((rd_T51 l0_4 x3_2).f3.f2))) (ds:=[]) (bz 25 0) (by kernel_rfl) rfl (by kernel_rfl) (bk6_ Ma.out (bk6_ Ka.out (re6_ HB.out hw146_0 hw146_1 hw146_2 hw146_3 hw146_4 hw146_5))) (fun hHeld=>?_);refine with_tabW spec_TreeOk.tab7 spec_TreeOk.bits7 (fun HT_ HW_=>?_);generalize w23.drew=w24 at Ka Ma HB hx146_0 hx146_1 hx146_2 hx146_3 hx146_4 hx146_5 hHeld ⊢;refine pb_ 0 ?_;refine pb_ 2 ?_;refine pb_ 3 ?_;refine pb_ 5 ?_;refine tb_ 1 rfl rfl hHeld Z29 ?_
            refine tb_ 4 rfl rfl hHeld Z29 ?_;refine pb_ 6 ?_;refine pb_ 7 ?_;refine tb_ 8 rfl rfl hHeld Z29 ?_;refine pb_ 9 ?_;refine pb_ 10 ?_;refine pb_ 11 ?_;refine pb_ 12 ?_;refine pb_ 14 ?_;refine pb_ 15 ?_;refine tb_ 13 rfl rfl hHeld Z29 ?_;refine tb_ 16 rfl rfl hHeld Z29 ?_;refine pb_ 17 ?_;refine pb_ 18 ?_;refine pb_ 19 ?_;refine pb_ 20 ?_;refine tb_ 21 rfl rfl hHeld Z29 ?_;refine oa_ 22 53 25 8388607 HT_ (fun K hK=>?_);refine goes_ Try.func34 (by kernel_rfl) rfl #[.agg #[I L ((rd_T54 l0_5 x3_2).f1.f0),I L ((rd_T54 l0_5 x3_2).f1.f1.f0),I L ((rd_T54 l0_5 x3_2).f1.f1.f1),I L ((rd_T54 l0_5 x3_2).f1.f1.f2),Y A144_5 ((rd_T54 l0_5 x3_2).f1.f2).length c144_5]] (by rfl) rfl rfl Z21 ?_;with_reducible refine (spec_FairOk.calls k2 ((rd_T54 l0_5 x3_2).f1.f0) ((rd_T54 l0_5 x3_2).f1.f1.f0) ((rd_T54 l0_5 x3_2).f1.f1.f1) ((rd_T54 l0_5 x3_2).f1.f1.f2) _ _ ((rd_T54 l0_5 x3_2).f1.f2) Uh _ ?side1 ?side2 A22.out).mono ?_
            (case side1 => exact pC_ (Kd.C_below HR144_5.out HB.out)); (case side2 => exact HC144_5.out); rintro e w25 ⟨rfl, hb⟩; refine ⟨_, rfl, ?_⟩
            have n_ := an_ (blk_below (pk_ Ka.out) hb) <| an_ (blk_below (pk_ Ma.out) hb) <| D (below_step (pB_ HB.out) hb)
            clear Ka Ma HB;obtain ⟨Ka,Ma,HB⟩:=n_;refine hK.out _ _ (bk6_ Ma.out (bk6_ Ka.out (re6_ HB.out hw146_0 hw146_1 hw146_2 hw146_3 hw146_4 hw146_5))) (fun hHeld=>?_);clear hK K;refine nx_ (N:=some 53) ?_;refine pb_ 23 ?_;refine pb_ 24 ?_;refine done_ (done_of HT_.out (by kernel_rfl)) ?_
            try go_wp2
            go_meet
            case rel => exact ⟨_, (!Uh), Z53, H', ⟨by have := HJ1.out; have := HK2.out; first | omega | exact Nat.le_refl _⟩, ⟨pk_ Ka.out⟩, ⟨pk_ Ma.out⟩, ⟨pB_ HB.out⟩⟩
           ·rw [if_neg c21] at H
            have c21b0:(((rd_T54 l0_5 x3_2).f1.f0) == a0_0)=false:=beq_eq_false_iff_ne.mpr c21;have c21b1:(((rd_T54 l0_5 x3_2).f1.f0) != a0_0)=true:=bne_iff_ne.mpr c21;have H':=D H;clear H
            try go_wp2
            obtain ⟨w26,hq_⟩:∃ W_,W_=((((((w16.setCell ⟨Ja,0,none⟩ (I L ((rd_T54 l0_5 x3_2).f0))).setCell ⟨Ja,1,none⟩ (I L ((rd_T54 l0_5 x3_2).f1.f0))).setCell ⟨Ja,2,none⟩ (I L ((rd_T54 l0_5 x3_2).f1.f1.f0))).setCell ⟨Ja,3,none⟩ (I L ((rd_T54 l0_5 x3_2).f1.f1.f1))).setCell ⟨Ja,4,none⟩ (I L ((rd_T54 l0_5 x3_2).f1.f1.f2))).setCell ⟨Ja,5,none⟩ (Y A144_5 ((rd_T54 l0_5 x3_2).f1.f2).length c144_5)):=⟨_,rfl⟩;have n0_:Aside0 (w26.heap[Oa]?=some (.cells #[I L a0_0,I L a0_1,I L a0_2,I L a0_3,Y A0_4 l0_4.length c0_4,Y (some ad144) l0_5.length c0_5] 37 (0,0))):=⟨by rw [hq_];exact pP_ Ka.out⟩;have n1_:Aside0 (w26.heap[Ja]?=some (.cells #[I L ((rd_T54 l0_5 x3_2).f0),I L ((rd_T54 l0_5 x3_2).f1.f0),I L ((rd_T54 l0_5 x3_2).f1.f1.f0),I L ((rd_T54 l0_5 x3_2).f1.f1.f1),I L ((rd_T54 l0_5 x3_2).f1.f1.f2),Y A144_5 ((rd_T54 l0_5 x3_2).f1.f2).length c144_5] 54 (0,0))):=⟨by rw [hq_];exact pP_ Ma.out⟩;have n2_:Aside0 (Below w.heap.size w w26):=⟨by rw [hq_];exact pB_ HB.out⟩;(try clear Ka);(try clear Ma);(try clear HB);(try rw [←hq_]);clear hq_;have Ka:=n0_;have Ma:=n1_;have HB:=n2_;clear n0_ n1_ n2_
            have n_ := an_ (blk_drew Ka.out) <| an_ (blk_drew Ma.out) <| D (below_drew1 HB.out)
            clear Ka Ma HB;obtain ⟨Ka,Ma,HB⟩:=n_;have p146:0≤(x3_2:Int):=od_ Z52;have q146:x3_2 < (l0_4.length:Int):=od_ Z52;obtain ⟨ad146,e146,hx146_0,hx146_1,hx146_2,hx146_3,hx146_4,hx146_5⟩:=at_T51 HR0_4.out x3_2 p146 q146;have hw146_5:=hx146_5;have hw146_4:=hx146_4;have hw146_3:=hx146_3;have hw146_2:=hx146_2;have hw146_1:=hx146_1;have hw146_0:=hx146_0;cases e146;replace hx146_0:=rc_ HB.out hx146_0;replace hx146_1:=rc_ HB.out hx146_1;replace hx146_2:=rc_ HB.out hx146_2;replace hx146_3:=rc_ HB.out hx146_3;replace hx146_4:=rc_ HB.out hx146_4;replace hx146_5:=rc_ HB.out hx146_5;replace p146:=eq_true p146;replace q146:=eq_true q146;refine start_ (n:=25) (S:=fun w'=>w'.cell? ⟨Ja,0,none⟩=some (I L ((rd_T54 l0_5 x3_2).f0))∧w'.cell? ⟨Ja,1,none⟩=some (I L ((rd_T54 l0_5 x3_2).f1.f0))∧w'.cell? ⟨Ja,2,none⟩=some (I L ((rd_T54 l0_5 x3_2).f1.f1.f0))∧w'.cell? ⟨Ja,3,none⟩=some (I L ((rd_T54 l0_5 x3_2).f1.f1.f1))∧w'.cell? ⟨Ja,4,none⟩=some (I L ((rd_T54 l0_5 x3_2).f1.f1.f2))∧w'.cell? ⟨Ja,5,none⟩=some (Y A144_5 ((rd_T54 l0_5 x3_2).f1.f2).length c144_5)∧w'.cell? ⟨Oa,0,none⟩=some (I L a0_0)∧w'.cell? ⟨Oa,1,none⟩=some (I L a0_1)∧w'.cell? ⟨Oa,2,none⟩=some (I L a0_2)∧w'.cell? ⟨Oa,3,none⟩=some (I L a0_3)∧w'.cell? ⟨Oa,4,none⟩=some (Y (some ad146) l0_4.length c0_4)∧w'.cell? ⟨Oa,5,none⟩=some (Y (some ad144) l0_5.length c0_5)∧w'.cell? (ad146.add ((x3_2).toNat * 6))=some (I L ((rd_T51 l0_4 x3_2).f0))∧w'.cell? ⟨(ad146.add ((x3_2).toNat * 6)).block,(ad146.add ((x3_2).toNat * 6)).off + 1,none⟩=some (I L ((rd_T51 l0_4 x3_2).f1))∧w'.cell? ⟨(ad146.add ((x3_2).toNat * 6)).block,(ad146.add ((x3_2).toNat * 6)).off + 2,none⟩=some (.bool ((rd_T51 l0_4 x3_2).f2))∧w'.cell? ⟨(ad146.add ((x3_2).toNat * 6)).block,(ad146.add ((x3_2).toNat * 6)).off + 3,none⟩=some (I L ((rd_T51 l0_4 x3_2).f3.f0))∧w'.cell? ⟨(ad146.add ((x3_2).toNat * 6)).block,(ad146.add ((x3_2).toNat * 6)).off + 4,none⟩=some (I L ((rd_T51 l0_4 x3_2).f3.f1))∧w'.cell? ⟨(ad146.add ((x3_2).toNat * 6)).block,(ad146.add ((x3_2).toNat * 6)).off + 5,none⟩=some (I L ((rd_T51 l0_4 x3_2).f3.f2))) (ds:=[]) (bz 25 0) (by kernel_rfl) rfl (by kernel_rfl) (bk6_ Ma.out (bk6_ Ka.out (re6_ HB.out hw146_0 hw146_1 hw146_2 hw146_3 hw146_4 hw146_5))) (fun hHeld=>?_);refine with_tabW spec_TreeOk.tab7 spec_TreeOk.bits7 (fun HT_ HW_=>?_);generalize w26.drew=w27 at Ka Ma HB hx146_0 hx146_1 hx146_2 hx146_3 hx146_4 hx146_5 hHeld ⊢;refine pb_ 0 ?_;refine pb_ 2 ?_;refine pb_ 3 ?_;refine pb_ 5 ?_;refine tb_ 1 rfl rfl hHeld Z29 ?_
            refine tb_ 4 rfl rfl hHeld Z29 ?_;refine pb_ 6 ?_;refine pb_ 7 ?_;refine tb_ 8 rfl rfl hHeld Z29 ?_;refine pb_ 9 ?_;refine pb_ 10 ?_;refine pb_ 11 ?_;refine pb_ 12 ?_;refine pb_ 14 ?_;refine pb_ 15 ?_;refine tb_ 13 rfl rfl hHeld Z29 ?_;refine tb_ 16 rfl rfl hHeld Z29 ?_;refine pb_ 17 ?_;refine pb_ 18 ?_;refine pb_ 19 ?_;refine ob_ 20 ?_;refine ob_ 21 ?_;refine ob_ 22 ?_;refine ob_ 23 ?_;refine pb_ 24 ?_;refine done_ (done_of HT_.out (by kernel_rfl)) ?_
            try go_wp2
            go_meet
            case rel => exact ⟨_, (true), Z53, H', ⟨by have := HJ1.out; have := HK2.out; first | omega | exact Nat.le_refl _⟩, ⟨pk_ Ka.out⟩, ⟨pk_ Ma.out⟩, ⟨pB_ HB.out⟩⟩
          ·rw [if_neg c20] at H
           have c20b0:(((rd_T54 l0_5 x3_2).f0) == ((rd_T51 l0_4 x3_2).f0))=false:=beq_eq_false_iff_ne.mpr c20;have c20b1:(((rd_T54 l0_5 x3_2).f0) != ((rd_T51 l0_4 x3_2).f0))=true:=bne_iff_ne.mpr c20;have H':=D H;clear H
           try go_wp2
           obtain ⟨w28,hq_⟩:∃ W_,W_=((((((w16.setCell ⟨Ja,0,none⟩ (I L ((rd_T54 l0_5 x3_2).f0))).setCell ⟨Ja,1,none⟩ (I L ((rd_T54 l0_5 x3_2).f1.f0))).setCell ⟨Ja,2,none⟩ (I L ((rd_T54 l0_5 x3_2).f1.f1.f0))).setCell ⟨Ja,3,none⟩ (I L ((rd_T54 l0_5 x3_2).f1.f1.f1))).setCell ⟨Ja,4,none⟩ (I L ((rd_T54 l0_5 x3_2).f1.f1.f2))).setCell ⟨Ja,5,none⟩ (Y A144_5 ((rd_T54 l0_5 x3_2).f1.f2).length c144_5)):=⟨_,rfl⟩;have n0_:Aside0 (w28.heap[Oa]?=some (.cells #[I L a0_0,I L a0_1,I L a0_2,I L a0_3,Y A0_4 l0_4.length c0_4,Y (some ad144) l0_5.length c0_5] 37 (0,0))):=⟨by rw [hq_];exact pP_ Ka.out⟩;have n1_:Aside0 (w28.heap[Ja]?=some (.cells #[I L ((rd_T54 l0_5 x3_2).f0),I L ((rd_T54 l0_5 x3_2).f1.f0),I L ((rd_T54 l0_5 x3_2).f1.f1.f0),I L ((rd_T54 l0_5 x3_2).f1.f1.f1),I L ((rd_T54 l0_5 x3_2).f1.f1.f2),Y A144_5 ((rd_T54 l0_5 x3_2).f1.f2).length c144_5] 54 (0,0))):=⟨by rw [hq_];exact pP_ Ma.out⟩;have n2_:Aside0 (Below w.heap.size w w28):=⟨by rw [hq_];exact pB_ HB.out⟩;(try clear Ka);(try clear Ma);(try clear HB);(try rw [←hq_]);clear hq_;have Ka:=n0_;have Ma:=n1_;have HB:=n2_;clear n0_ n1_ n2_
           have n_ := an_ (blk_drew Ka.out) <| an_ (blk_drew Ma.out) <| D (below_drew1 HB.out)
           clear Ka Ma HB;obtain ⟨Ka,Ma,HB⟩:=n_;have p146:0≤(x3_2:Int):=od_ Z52;have q146:x3_2 < (l0_4.length:Int):=od_ Z52;obtain ⟨ad146,e146,hx146_0,hx146_1,hx146_2,hx146_3,hx146_4,hx146_5⟩:=at_T51 HR0_4.out x3_2 p146 q146;have hw146_5:=hx146_5;have hw146_4:=hx146_4;have hw146_3:=hx146_3;have hw146_2:=hx146_2;have hw146_1:=hx146_1;have hw146_0:=hx146_0;cases e146;replace hx146_0:=rc_ HB.out hx146_0;replace hx146_1:=rc_ HB.out hx146_1;replace hx146_2:=rc_ HB.out hx146_2;replace hx146_3:=rc_ HB.out hx146_3;replace hx146_4:=rc_ HB.out hx146_4;replace hx146_5:=rc_ HB.out hx146_5;replace p146:=eq_true p146;replace q146:=eq_true q146;refine start_ (n:=25) (S:=fun w'=>w'.cell? ⟨Ja,0,none⟩=some (I L ((rd_T54 l0_5 x3_2).f0))∧w'.cell? ⟨Ja,1,none⟩=some (I L ((rd_T54 l0_5 x3_2).f1.f0))∧w'.cell? ⟨Ja,2,none⟩=some (I L ((rd_T54 l0_5 x3_2).f1.f1.f0))∧w'.cell? ⟨Ja,3,none⟩=some (I L ((rd_T54 l0_5 x3_2).f1.f1.f1))∧w'.cell? ⟨Ja,4,none⟩=some (I L ((rd_T54 l0_5 x3_2).f1.f1.f2))∧w'.cell? ⟨Ja,5,none⟩=some (Y A144_5 ((rd_T54 l0_5 x3_2).f1.f2).length c144_5)∧w'.cell? ⟨Oa,0,none⟩=some (I L a0_0)∧w'.cell? ⟨Oa,1,none⟩=some (I L a0_1)∧w'.cell? ⟨Oa,2,none⟩=some (I L a0_2)∧w'.cell? ⟨Oa,3,none⟩=some (I L a0_3)∧w'.cell? ⟨Oa,4,none⟩=some (Y (some ad146) l0_4.length c0_4)∧w'.cell? ⟨Oa,5,none⟩=some (Y (some ad144) l0_5.length c0_5)∧w'.cell? (ad146.add ((x3_2).toNat * 6))=some (I L ((rd_T51 l0_4 x3_2).f0))∧w'.cell? ⟨(ad146.add ((x3_2).toNat * 6)).block,(ad146.add ((x3_2).toNat * 6)).off + 1,none⟩=some (I L ((rd_T51 l0_4 x3_2).f1))∧w'.cell? ⟨(ad146.add ((x3_2).toNat * 6)).block,(ad146.add ((x3_2).toNat * 6)).off + 2,none⟩=some (.bool ((rd_T51 l0_4 x3_2).f2))∧w'.cell? ⟨(ad146.add ((x3_2).toNat * 6)).block,(ad146.add ((x3_2).toNat * 6)).off + 3,none⟩=some (I L ((rd_T51 l0_4 x3_2).f3.f0))∧w'.cell? ⟨(ad146.add ((x3_2).toNat * 6)).block,(ad146.add ((x3_2).toNat * 6)).off + 4,none⟩=some (I L ((rd_T51 l0_4 x3_2).f3.f1))∧w'.cell? ⟨(ad146.add ((x3_2).toNat * 6)).block,(ad146.add ((x3_2).toNat * 6)).off + 5,none⟩=some (I L ((rd_T51 l0_4 x3_2).f3.f2))) (ds:=[]) (bz 25 0) (by kernel_rfl) rfl (by kernel_rfl) (bk6_ Ma.out (bk6_ Ka.out (re6_ HB.out hw146_0 hw146_1 hw146_2 hw146_3 hw146_4 hw146_5))) (fun hHeld=>?_);refine with_tabW spec_TreeOk.tab7 spec_TreeOk.bits7 (fun HT_ HW_=>?_);generalize w28.drew=w29 at Ka Ma HB hx146_0 hx146_1 hx146_2 hx146_3 hx146_4 hx146_5 hHeld ⊢;refine pb_ 0 ?_;refine pb_ 2 ?_;refine pb_ 3 ?_;refine pb_ 5 ?_;refine tb_ 1 rfl rfl hHeld Z29 ?_
           refine tb_ 4 rfl rfl hHeld Z29 ?_;refine pb_ 6 ?_;refine pb_ 7 ?_;refine tb_ 8 rfl rfl hHeld Z29 ?_;refine pb_ 9 ?_;refine pb_ 10 ?_;refine ob_ 11 ?_;refine ob_ 12 ?_;refine ob_ 13 ?_;refine ob_ 14 ?_;refine ob_ 15 ?_;refine ob_ 16 ?_;refine ob_ 17 ?_;refine pb_ 18 ?_;refine pb_ 19 ?_;refine ob_ 20 ?_;refine ob_ 21 ?_;refine ob_ 22 ?_;refine ob_ 23 ?_;refine pb_ 24 ?_;refine done_ (done_of HT_.out (by kernel_rfl)) ?_
           try go_wp2
           go_meet
           case rel => exact ⟨_, (true), Z53, H', ⟨by have := HJ1.out; have := HK2.out; first | omega | exact Nat.le_refl _⟩, ⟨pk_ Ka.out⟩, ⟨pk_ Ma.out⟩, ⟨pB_ HB.out⟩⟩
         ·rw [if_neg c19] at H
          exact absurd H (by simp)
        case rest =>
         clear HC14
         (try clear c1);(try clear p1);(try clear q1);(try clear hx1);(try clear c2);(try clear p2);(try clear c3);(try clear c5);(try clear c11);(try clear c12);(try clear c12b0);(try clear c13);(try clear c13b0);(try clear c14);(try clear p14);(try clear q14);(try clear hx14);(try clear c17);(try clear c19);(try clear c19b0);(try clear c20);(try clear c20b0);(try clear c20b1);(try clear c21);(try clear c21b0);(try clear c21b1);(try clear Xh);(try clear Jk);(try clear Ob Ub Xb Jc Kc Mc Oc Uc Xc Jd Md Od);(try clear Ud);(try clear Uf Xf Jg Kg Mg Og Ug Xg Jh Kh Mh Oh);(try clear hx144_0 hx144_1 hx144_2 hx144_3 hx144_4 hx144_5);(try clear hx146_0 hx146_1 hx146_2 hx146_3 hx146_4 hx146_5);(try clear p144);(try clear p146);(try clear p2);(try clear q144);(try clear q146)
         obtain ⟨kq, Kb, rfl, HA, HJ13, Ka, Ma, HB⟩ := hcut
         cases kq with
         | zero => exact absurd HA.out (by simp [spec_TreeOk.j2])
         | succ kj13 =>
          have H := HA.out; clear HA; simp only [spec_TreeOk.j2] at H
          by_cases c30 : Kb = true
          ·subst c30
           rw [if_pos rfl] at H; obtain rfl := Option.some.inj H
           go_wp2
           go_ret; exact ⟨er_, pB_ HB.out⟩
          ·replace c30 := Bool.eq_false_iff.mpr c30
           subst c30; rw [if_neg (show ¬ (false = true) by decide)] at H
           by_cases c31 : 0 ≤ x3_2
           ·rw [if_pos c31] at H
            have c31b0 : decide (0 ≤ x3_2) = true := decide_eq_true c31; clear c31
            by_cases c32 : x3_2 < (l0_4.length : Int)
            ·rw [if_pos c32] at H
             have c32b0:decide (x3_2 < (l0_4.length:Int))=true:=decide_eq_true c32;clear c32;obtain ⟨Xa,A330,H⟩:=bs_.mp H;(try dsimp only at H);have A33:=D A330;clear A330;have HU34:=D H;clear H
             try go_wp2
             have n_ := an_ (blk_drew Ka.out) <| an_ (blk_drew Ma.out) <| D (below_drew1 HB.out)
             clear Ka Ma HB;obtain ⟨Ka,Ma,HB⟩:=n_;have p148:0≤(x3_2:Int):=od_ Z52;have q148:x3_2 < (l0_4.length:Int):=od_ Z52;obtain ⟨ad148,e148,hx148_0,hx148_1,hx148_2,hx148_3,hx148_4,hx148_5⟩:=at_T51 HR0_4.out x3_2 p148 q148;have hw148_5:=hx148_5;have hw148_4:=hx148_4;have hw148_3:=hx148_3;have hw148_2:=hx148_2;have hw148_1:=hx148_1;have hw148_0:=hx148_0;cases e148;replace hx148_0:=rc_ HB.out hx148_0;replace hx148_1:=rc_ HB.out hx148_1;replace hx148_2:=rc_ HB.out hx148_2;replace hx148_3:=rc_ HB.out hx148_3;replace hx148_4:=rc_ HB.out hx148_4;replace hx148_5:=rc_ HB.out hx148_5;replace p148:=eq_true p148;replace q148:=eq_true q148;refine start_ (n:=13) (S:=fun w'=>w'.cell? ⟨Oa,0,none⟩=some (I L a0_0)∧w'.cell? ⟨Oa,1,none⟩=some (I L a0_1)∧w'.cell? ⟨Oa,2,none⟩=some (I L a0_2)∧w'.cell? ⟨Oa,3,none⟩=some (I L a0_3)∧w'.cell? ⟨Oa,4,none⟩=some (Y (some ad148) l0_4.length c0_4)∧w'.cell? ⟨Oa,5,none⟩=some (Y (some ad144) l0_5.length c0_5)∧w'.cell? ⟨Ja,0,none⟩=some (I L ((rd_T54 l0_5 x3_2).f0))∧w'.cell? ⟨Ja,1,none⟩=some (I L ((rd_T54 l0_5 x3_2).f1.f0))∧w'.cell? ⟨Ja,2,none⟩=some (I L ((rd_T54 l0_5 x3_2).f1.f1.f0))∧w'.cell? ⟨Ja,3,none⟩=some (I L ((rd_T54 l0_5 x3_2).f1.f1.f1))∧w'.cell? ⟨Ja,4,none⟩=some (I L ((rd_T54 l0_5 x3_2).f1.f1.f2))∧w'.cell? ⟨Ja,5,none⟩=some (Y A144_5 ((rd_T54 l0_5 x3_2).f1.f2).length c144_5)∧w'.cell? (ad148.add ((x3_2).toNat * 6))=some (I L ((rd_T51 l0_4 x3_2).f0))∧w'.cell? ⟨(ad148.add ((x3_2).toNat * 6)).block,(ad148.add ((x3_2).toNat * 6)).off + 1,none⟩=some (I L ((rd_T51 l0_4 x3_2).f1))∧w'.cell? ⟨(ad148.add ((x3_2).toNat * 6)).block,(ad148.add ((x3_2).toNat * 6)).off + 2,none⟩=some (.bool ((rd_T51 l0_4 x3_2).f2))∧w'.cell? ⟨(ad148.add ((x3_2).toNat * 6)).block,(ad148.add ((x3_2).toNat * 6)).off + 3,none⟩=some (I L ((rd_T51 l0_4 x3_2).f3.f0))∧w'.cell? ⟨(ad148.add ((x3_2).toNat * 6)).block,(ad148.add ((x3_2).toNat * 6)).off + 4,none⟩=some (I L ((rd_T51 l0_4 x3_2).f3.f1))∧w'.cell? ⟨(ad148.add ((x3_2).toNat * 6)).block,(ad148.add ((x3_2).toNat * 6)).off + 5,none⟩=some (I L ((rd_T51 l0_4 x3_2).f3.f2))) (ds:=[]) (bz 13 0) (by kernel_rfl) rfl (by kernel_rfl) (bk6_ Ka.out (bk6_ Ma.out (re6_ HB.out hw148_0 hw148_1 hw148_2 hw148_3 hw148_4 hw148_5))) (fun hHeld=>?_);refine with_tabW spec_TreeOk.tab9 spec_TreeOk.bits9 (fun HT_ HW_=>?_);generalize wc.drew=w35 at Ka Ma HB hx148_0 hx148_1 hx148_2 hx148_3 hx148_4 hx148_5 hHeld ⊢;refine pb_ 0 ?_;refine pb_ 1 ?_;refine pb_ 3 ?_;refine pb_ 7 ?_;refine tb_ 2 rfl rfl hHeld Z29 ?_
             refine pb_ 4 ?_;refine pb_ 5 ?_;refine tb_ 6 rfl rfl hHeld Z29 ?_;refine tb_ 8 rfl rfl hHeld Z29 ?_;refine oa_ 9 65 13 1023 HT_ (fun K hK=>?_);refine goes_ Try.func35 (by kernel_rfl) rfl #[.agg #[I L ((rd_T54 l0_5 x3_2).f1.f0),I L ((rd_T54 l0_5 x3_2).f1.f1.f0),I L ((rd_T54 l0_5 x3_2).f1.f1.f1),I L ((rd_T54 l0_5 x3_2).f1.f1.f2),Y A144_5 ((rd_T54 l0_5 x3_2).f1.f2).length c144_5]] (by rfl) rfl rfl Z21 ?_;with_reducible refine (spec_l19Busy.calls kj13 ((rd_T54 l0_5 x3_2).f1.f0) ((rd_T54 l0_5 x3_2).f1.f1.f0) ((rd_T54 l0_5 x3_2).f1.f1.f1) ((rd_T54 l0_5 x3_2).f1.f1.f2) _ _ ((rd_T54 l0_5 x3_2).f1.f2) Xa _ ?side1 ?side2 A33.out).mono ?_
             (case side1 => exact pC_ (Kd.C_below HR144_5.out HB.out)); (case side2 => exact HC144_5.out); rintro e w36 ⟨Xn, rfl, ho0, hb⟩; refine ⟨_, rfl, ?_⟩
             have n_ := an_ (Kd.R_lower ho0 (below_size (pB_ HB.out))) <| an_ (blk_below (pk_ Ka.out) hb) <| an_ (blk_below (pk_ Ma.out) hb) <| D (below_step (pB_ HB.out) hb)
             clear Ka Ma HB;obtain ⟨Jn,Ka,Ma,HB⟩:=n_;obtain ⟨Jo,Ko,eo37⟩:=Kd.R_slice Jn.out;(first|subst eo37|obtain ⟨rfl,rfl⟩:=sl_inj eo37);refine hK.out _ _ (bk6_ Ka.out (bk6_ Ma.out (re6_ HB.out hw148_0 hw148_1 hw148_2 hw148_3 hw148_4 hw148_5))) (fun hHeld=>?_);clear hK K;refine nx_ (N:=some 65) ?_;refine pb_ 10 ?_;refine pb_ 11 ?_;refine pb_ 12 ?_;refine done_ (done_of HT_.out (by kernel_rfl)) ?_
             go_upto_if 68 with (fail)
             have H := HU34.out; clear HU34
             by_cases c38 : (((rd_T51 l0_4 x3_2).f2) != (decide ((Xa.length : Int) > 0))) = true
             ·rw [if_pos c38] at H
              have c38b0:(((rd_T51 l0_4 x3_2).f2) != (decide ((Xa.length:Int) > 0)))=true:=c38;(try (have c38b1:decide (((rd_T51 l0_4 x3_2).f2)=(decide ((Xa.length:Int) > 0)))=false:=by simpa using c38));(try (have c38b2:(((rd_T51 l0_4 x3_2).f2) == (decide ((Xa.length:Int) > 0)))=false:=by simpa using c38));(try (have c38b3:¬ (((rd_T51 l0_4 x3_2).f2)=(decide ((Xa.length:Int) > 0))):=by simpa using c38));clear c38;refine rw_ c38b0 ?_;obtain rfl:=Option.some.inj H
              go_wp2
              go_ret; exact ⟨er_, pB_ HB.out⟩
             ·rw [if_neg c38] at H
              have c38b0 : (((rd_T51 l0_4 x3_2).f2) != (decide ((Xa.length : Int) > 0))) = false := by simpa using c38
              (try (have c38b1:decide (((rd_T51 l0_4 x3_2).f2)=(decide ((Xa.length:Int) > 0)))=true:=by simpa using c38));(try (have c38b2:(((rd_T51 l0_4 x3_2).f2) == (decide ((Xa.length:Int) > 0)))=true:=by simpa using c38));clear c38;refine rw_ c38b0 ?_;have H':=D H;clear H
              go_wp2
              go_roundg kj13
              case measure => have := HJ1.out; have := HK2.out; have := HJ13.out; omega
              case rel => exact ⟨(wrap64 (x3_2 + 1)), Z53, H', ⟨by have := HJ1.out; have := HK2.out; have := HJ13.out; omega⟩, ⟨pk_ Ka.out⟩, ⟨pB_ HB.out⟩⟩
            ·rw [if_neg c32] at H
             exact absurd H (by simp)
           ·rw [if_neg c31] at H
            exact absurd H (by simp)
       ·rw [if_neg c13] at H
        exact absurd H (by simp)
      ·rw [if_neg c12] at H
       have c12b0:decide (x3_2 < (l0_5.length:Int))=false:=decide_eq_false c12;clear c12;obtain rfl:=Option.some.inj H;have Mo:=cells6 Ka.out
       go_wp2
       go_ret; exact ⟨er_, pB_ HB.out⟩

end Go.Proofs.Ytjfknflhajeglab.PFnExactTreeTenant
