-- by a program of this session's, over the kit's words
import Derived.Test.YtjfknflhajeglabPZFnExactTreeTenant
import Derived.Test.YtjfknflhajeglabPFnExactTreeTenantx0
namespace Go.Proofs.Ytjfknflhajeglab.PFnExactTreeTenant
open Go.RowKit Go.Proofs.YtjfknflhajeglabW.PrintWords Go.Proofs.YtjfknflhajeglabW.PrintLast Go.Proofs.YtjfknflhajeglabW.PrintMore Go.Proofs.YtjfknflhajeglabV Go.Proofs.Ytjfknflhajeglab.ZFnExactTreeTenant
open Go.Value renaming int → I, slice → Y
open Go.IntKind renaming i64 → L
open Aside0 renaming mk → D
open Option renaming bind_eq_some_iff → bs_
attribute [local go_sem] max2_int min2_int max_two min_two max_three min_three max_four min_four   -- for this text's walks alone
set_option linter.unusedVariables false
set_option linter.unusedSimpArgs false

/-! ### spec_l19Busy: function 35 -/
def spec_l19Busy.l0 : Nat → List Int → Int → Int → Int → Int → Int → List (S51) → Option (List Int)
 | 0, _, _, _, _, _, _, _ => none
 | k + 1,x3,x4,x134000,x134001,x134002,x134003,x134004=>if x4 < (x134004.length:Int) then (if 0≤x4 then (if (rd_T51 x134004 x4).f2=true then (if x3.length < 17592186044416 then (spec_l19Busy.l0 k (x3 ++ [(rd_T51 x134004 x4).f0]) (wrap64 (x4 + 1)) x134000 x134001 x134002 x134003 x134004) else (none)) else (spec_l19Busy.l0 k x3 (wrap64 (x4 + 1)) x134000 x134001 x134002 x134003 x134004)) else (none)) else (some x3)
def spec_l19Busy.f (k : Nat) (a0_0 a0_1 a0_2 a0_3 : Int) (l0_4 : List (S51)) : Option (List Int) := spec_l19Busy.l0 k (([] : List Int)) 0 a0_0 a0_1 a0_2 a0_3 l0_4
set_option maxHeartbeats 8000000 in
set_option maxRecDepth 100000 in
theorem spec_l19Busy.calls (k : Nat) (a0_0 a0_1 a0_2 a0_3 : Int) (A0_4 : Option Addr) (c0_4 : Nat) (l0_4 : List (S51)) (r : List Int) (w : World) (hr0_4 : Kd.C k51 w A0_4 l0_4.length l0_4) (hc0_4 : l0_4.length ≤ c0_4) (h : spec_l19Busy.f k a0_0 a0_1 a0_2 a0_3 l0_4 = some r) :
  Calls Try.prog 35 #[.agg #[I L a0_0,I L a0_1,I L a0_2,I L a0_3,Y A0_4 l0_4.length c0_4]] w fun e w'=>∃ v0_:Value,e=.returned (v0_)∧Kd.R (Kd.int .i64) 3 w' w.heap.size (fun _=>True) v0_ r∧Below w.heap.size w w':=by
 have hu34 := Try.underlying34
 have HR0_4 := D hr0_4
 have HC0_4 := D hc0_4
 clear hr0_4 hc0_4
 have HB := D (Below.refl w.heap.size w)
 have H : (spec_l19Busy.l0 k (([] : List Int)) 0 a0_0 a0_1 a0_2 a0_3 l0_4) = some r := h
 clear h
 obtain ⟨y134, hy134⟩ : ∃ y_ : List Int, y_ = (([] : List Int)) := ⟨_, rfl⟩
 replace H:(spec_l19Busy.l0 k y134 0 a0_0 a0_1 a0_2 a0_3 l0_4)=some r:=by first|(rw [hy134];with_reducible exact H)|(have H2_:=(Option.bind_some _ _).symm.trans H;rw [hy134];with_reducible exact H2_)|(have H2_:=(Option.bind_some _ _).symm.trans H;with_reducible exact H2_)|with_reducible exact H|(rw [hy134];exact H)|exact H
 have Ny134 := D hy134
 clear hy134
 have H' := D H
 clear H
 go_enter Try.func35, Try.ntmps35
 go_wp2_with (first|((with_reducible refine gate_dst (N:=1) rfl ?_);refine bx_ (N:=1) (cs:=#[I L a0_0,I L a0_1,I L a0_2,I L a0_3,Y A0_4 l0_4.length c0_4]) (t:=34) ?_;intro gb133 hg w2 hbox hb;have n_:=an_ (below_step (pB_ HB.out) hb)<|an_ (hbox)<|an_ (bg_ hg (pB_ HB.out):w.heap.size≤gb133)<|D (bg_ hg (pB_ HB.out):w.heap.size≤gb133);clear HB;obtain ⟨HB,BK133,GW133,GE133⟩:=n_;clear hb hbox hg)|((with_reducible refine gate_dst (N:=5) rfl ?_);refine Kd.R_lit (Kd.int .i64) _ 3 ?hg (N:=5) ?hd (xs:=([]:List Int)) (inner:=[]) (ok:=fun _=>True) (okp:=fun _=>True) ?hr ?hp (fun _ hk=>hk) trivial (Below.refl _ _) (Nat.le_refl _) (by simp) ?_;(case hd=>rfl);(case hg=>rfl);(case hr=>first|(go_simp;done)|(go_simp;rfl));(case hp=>exact (Reps.none _ _));intro v135 w3 ho4 hb hg_ hnew_;clear hg_ hnew_;(first|rw [← Ny134.out] at ho4|(simp only [Int.reduceToNat] at ho4;rw [← Ny134.out] at ho4));have n_:=an_ (Kd.R_lower ho4 (below_size (pB_ HB.out)))<|an_ (blk_below (pk_ BK133.out) hb)<|D (below_step (pB_ HB.out) hb);clear BK133 HB;obtain ⟨HO136,BK133,HB⟩:=n_;clear hb ho4))
 go_loopg [3,4] k (fun kq v3 v4 w'=>∃ (x3_1:List Int) (x4_1:Int),v4=I L x4_1∧Aside0 (spec_l19Busy.l0 kq x3_1 x4_1 a0_0 a0_1 a0_2 a0_3 l0_4=some r)∧Aside0 (kq≤k)∧Aside0 (Kd.R (Kd.int .i64) 3 w' w.heap.size (fun _=>True) v3 x3_1)∧Aside0 (w'.heap[gb133]?=some (.cells #[I L a0_0,I L a0_1,I L a0_2,I L a0_3,(Y A0_4 l0_4.length c0_4)] 34 (0,0)))∧Aside0 (Below w.heap.size w w'))
 case atStart => exact ⟨(y134), (0), Z53, H', ⟨Nat.le_refl _⟩, ⟨pR_ HO136.out⟩, ⟨pk_ BK133.out⟩, ⟨pB_ HB.out⟩⟩
 case round =>
  clear H'
  (try clear p2);(try clear c3)
  obtain ⟨x3_1, x4_1, rfl, HA, HK1, HO_3, BK133, HB⟩ := hrel
  cases gk with
  | zero => exact absurd HA.out (by simp [spec_l19Busy.l0])
  | succ k1 =>
   have H := HA.out; clear HA; simp only [spec_l19Busy.l0] at H
   by_cases c5 : x4_1 < (l0_4.length : Int)
   ·rw [if_pos c5] at H
    have c5b0 : decide (x4_1 < (l0_4.length : Int)) = true := decide_eq_true c5; clear c5
    by_cases c6 : 0 ≤ x4_1
    ·rw [if_pos c6] at H
     have c6b0:decide (0≤x4_1)=true:=decide_eq_true c6;clear c6;have HU7:=D H;clear H;have hcz8_0:=cells5 BK133.out;have p137:0≤(x4_1:Int):=od_ Z52;have q137:x4_1 < (l0_4.length:Int):=od_ Z52;obtain ⟨ad137,e137,hx137_0,hx137_1,hx137_2,hx137_3,hx137_4,hx137_5⟩:=at_T51 HR0_4.out x4_1 p137 q137;cases e137;replace hx137_0:=rc_ HB.out hx137_0;replace hx137_1:=rc_ HB.out hx137_1;replace hx137_2:=rc_ HB.out hx137_2;replace hx137_3:=rc_ HB.out hx137_3;replace hx137_4:=rc_ HB.out hx137_4;replace hx137_5:=rc_ HB.out hx137_5;replace p137:=eq_true p137;replace q137:=eq_true q137
     go_upto_if 18 with (fail)
     have H := HU7.out; clear HU7; obtain ⟨bq9, hbq9⟩ : ∃ b_ : Bool, b_ = ((rd_T51 l0_4 x4_1).f2) := ⟨_, rfl⟩
     replace H:(if bq9=true then (if x3_1.length < 17592186044416 then (spec_l19Busy.l0 k1 (x3_1 ++ [(rd_T51 l0_4 x4_1).f0]) (wrap64 (x4_1 + 1)) a0_0 a0_1 a0_2 a0_3 l0_4) else (none)) else (spec_l19Busy.l0 k1 x3_1 (wrap64 (x4_1 + 1)) a0_0 a0_1 a0_2 a0_3 l0_4))=some r:=by rw [← hbq9] at H;exact H
     have Nbq9 := D hbq9; clear hbq9; (try rw [← Nbq9.out])
     by_cases c10 : bq9 = true
     ·subst c10
      rw [if_pos rfl] at H
      by_cases c11 : x3_1.length < 17592186044416
      ·rw [if_pos c11] at H
       have LMc11 := D c11; clear c11; obtain ⟨y139, hy139⟩ : ∃ y_ : List Int, y_ = (x3_1 ++ [(rd_T51 l0_4 x4_1).f0]) := ⟨_, rfl⟩
       replace H:(spec_l19Busy.l0 k1 y139 (wrap64 (x4_1 + 1)) a0_0 a0_1 a0_2 a0_3 l0_4)=some r:=by first|(rw [hy139];with_reducible exact H)|(have H2_:=(Option.bind_some _ _).symm.trans H;rw [hy139];with_reducible exact H2_)|(have H2_:=(Option.bind_some _ _).symm.trans H;with_reducible exact H2_)|with_reducible exact H|(rw [hy139];exact H)|exact H
       have Ny139:=D hy139;clear hy139;have H':=D H;clear H;have hcz12_0:=cells5 BK133.out;have p138:0≤(x4_1:Int):=od_ Z52;have q138:x4_1 < (l0_4.length:Int):=od_ Z52;obtain ⟨ad138,e138,hx138_0,hx138_1,hx138_2,hx138_3,hx138_4,hx138_5⟩:=at_T51 HR0_4.out x4_1 p138 q138;(try rw [← Nbq9.out] at hx138_2);(try rw [← Nbq9.out] at hw138_2);obtain rfl:ad137=ad138:=(by injection e138);replace hx138_0:=rc_ HB.out hx138_0;replace hx138_1:=rc_ HB.out hx138_1;replace hx138_2:=rc_ HB.out hx138_2;replace hx138_3:=rc_ HB.out hx138_3;replace hx138_4:=rc_ HB.out hx138_4;replace hx138_5:=rc_ HB.out hx138_5;replace p138:=eq_true p138;replace q138:=eq_true q138
       go_wp2_with (first|((with_reducible refine gate_builtin (b:=.append) (xs:=#[.tmp 19,.tmp 26]) rfl ?_);at_builtin;refine Kd.R_append (Kd.int .i64) (w0:=w) w.heap.size rfl (.tmp 19) (.tmp 26) 69 3 (I L 0) 8 rfl Try.underlying69 info3 rfl (by decide) (by omega) u3 x3_1 ((rd_T51 l0_4 x4_1).f0) [I L ((rd_T51 l0_4 x4_1).f0)] (fun _=>True) (fun _=>False) rfl rfl ?aP (fun _ hk=>hk.elim) ?aF ?aO ?aB ?aS ?aL ?_;(case aP=>exact rfl);(case aB=>exact (pB_ HB.out));(case aF=>exact (fun _ _=>trivial));(case aO=>exact (pR_ HO_3.out));(case aS=>exact (below_size (pB_ HB.out)));(case aL=>have:=LMc11.out;omega);intro v140 w13 ho hb hg hat;rw [← Ny139.out] at ho;have n_:=an_ (blk_grown (pk_ BK133.out) hg (Kd.R_ne HO_3.out BK133.out (by decide)))<|an_ (hb)<|D (ho);clear BK133 HB HO_3;obtain ⟨BK133,HB,HO141⟩:=n_;clear ho hb hg hat))
       go_roundg k1
       case measure => have := HK1.out; omega
       case rel => exact ⟨(y139), (wrap64 (x4_1 + 1)), Z53, H', ⟨by have := HK1.out; omega⟩, ⟨pR_ HO141.out⟩, ⟨pk_ BK133.out⟩, ⟨pB_ HB.out⟩⟩
      ·rw [if_neg c11] at H
       exact absurd H (by simp)
     ·replace c10 := Bool.eq_false_iff.mpr c10
      subst c10; rw [if_neg (show ¬ (false = true) by decide)] at H; have H' := D H; clear H
      go_wp2
      go_roundg k1
      case measure => have := HK1.out; omega
      case rel => exact ⟨(x3_1), (wrap64 (x4_1 + 1)), Z53, H', ⟨by have := HK1.out; omega⟩, ⟨pR_ HO_3.out⟩, ⟨pk_ BK133.out⟩, ⟨pB_ HB.out⟩⟩
    ·rw [if_neg c6] at H
     exact absurd H (by simp)
   ·rw [if_neg c5] at H
    have c5b0:decide (x4_1 < (l0_4.length:Int))=false:=decide_eq_false c5;clear c5;obtain rfl:=Option.some.inj H;have hcz14_0:=cells5 BK133.out
    go_wp2
    go_ret;exact ⟨_,er_,by (with_reducible repeat (first|apply Kd.R_alloc|apply Kd.R_drewN|apply Kd.R_drew));exact HO_3.out,pB_ HB.out⟩

end Go.Proofs.Ytjfknflhajeglab.PFnExactTreeTenant
