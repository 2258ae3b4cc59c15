-- by a program of this session's, over the kit's words
import Derived.Test.YtjfknflhajeglabPZFnExactTreeTenant
import Derived.Test.YtjfknflhajeglabPFnExactTreeTenantx0
namespace Go.Proofs.Ytjfknflhajeglab.PFnExactTreeTenant
open Go.RowKit Go.Proofs.YtjfknflhajeglabW.PrintWords Go.Proofs.YtjfknflhajeglabW.PrintLast Go.Proofs.YtjfknflhajeglabW.PrintMore Go.Proofs.YtjfknflhajeglabV Go.Proofs.Ytjfknflhajeglab.ZFnExactTreeTenant
open Go.Value renaming int → I, slice → Y
open Go.IntKind renaming i64 → L
open Aside0 renaming mk → D
open Option renaming bind_eq_some_iff → bs_
attribute [local go_sem] max2_int min2_int max_two min_two max_three min_three max_four min_four   -- for this text's walks alone
set_option linter.unusedVariables false
set_option linter.unusedSimpArgs false

/-! ### laws_eqVec: function 54 -/
def laws_eqVec.f (a0_0 a0_1 a0_2 a1_0 a1_1 a1_2 : Int) : Option (Bool) := if a0_0 = a1_0 then (if a0_1 = a1_1 then (if a0_2 = a1_2 then (some true) else (some false)) else (some false)) else (some false)
set_option maxHeartbeats 8000000 in
set_option maxRecDepth 100000 in
theorem laws_eqVec.calls (a0_0 a0_1 a0_2 a1_0 a1_1 a1_2 : Int) (r : Bool) (w : World) (h : laws_eqVec.f a0_0 a0_1 a0_2 a1_0 a1_1 a1_2 = some r) :
  Calls Try.prog 54 #[.agg #[I L a0_0,I L a0_1,I L a0_2],.agg #[I L a1_0,I L a1_1,I L a1_2]] w fun e w'=>e=.returned (.bool r)∧Below w.heap.size w w':=by
 have hu31 := Try.underlying31
 have HB := D (Below.refl w.heap.size w)
 have H : (if a0_0 = a1_0 then (if a0_1 = a1_1 then (if a0_2 = a1_2 then (some true) else (some false)) else (some false)) else (some false)) = some r := h
 clear h
 have HU3 := D H
 clear H
 go_enter Try.func54, Try.ntmps54
 go_upto_if 9 with (first|((with_reducible refine gate_dst (N:=2) rfl ?_);refine bx_ (N:=2) (cs:=#[I L a0_0,I L a0_1,I L a0_2]) (t:=31) ?_;intro gb503 hg w4 hbox hb;have n_:=an_ (below_step (pB_ HB.out) hb)<|an_ (hbox)<|an_ (bg_ hg (pB_ HB.out):w.heap.size≤gb503)<|D (bg_ hg (pB_ HB.out):w.heap.size≤gb503);clear HB;obtain ⟨HB,BK503,GW503,GE503⟩:=n_;clear hb hbox hg)|((with_reducible refine gate_dst (N:=3) rfl ?_);refine bx_ (N:=3) (cs:=#[I L a1_0,I L a1_1,I L a1_2]) (t:=31) ?_;intro gb504 hg w5 hbox hb;have n_:=an_ (blk_below (pk_ BK503.out) hb)<|an_ (below_step (pB_ HB.out) hb)<|an_ (hbox)<|an_ (bg_ hg (pB_ HB.out):w.heap.size≤gb504)<|an_ (bg_ hg (pB_ HB.out):w.heap.size≤gb504)<|an_ (nl_ hg (pk_ BK503.out):gb503≠gb504)<|D (by rw [hg];exact Nat.ne_of_gt (blk_lt (pk_ BK503.out)):gb504≠gb503);clear BK503 HB;obtain ⟨BK503,HB,BK504,GW504,GE504,NB503_504,NB504_503⟩:=n_;clear hb hbox hg;(try have:=NB503_504.out);(try have:=NB504_503.out);have hcz7_0:=cells3 BK503.out;have hcz8_0:=cells3 BK504.out))
 have H := HU3.out
 clear HU3
 by_cases c9 : a0_0 = a1_0
 ·rw [if_pos c9] at H
  have c9b0:(a0_0 == a1_0)=true:=beq_iff_eq.mpr c9;have c9b1:(a0_0 != a1_0)=false:=bne_eq_false_iff_eq.mpr c9;clear c9;refine rw_ c9b0 ?_
  by_cases c10 : a0_1 = a1_1
  ·rw [if_pos c10] at H
   have c10b0 : (a0_1 == a1_1) = true := beq_iff_eq.mpr c10; have c10b1 : (a0_1 != a1_1) = false := bne_eq_false_iff_eq.mpr c10; clear c10
   by_cases c11 : a0_2 = a1_2
   ·rw [if_pos c11] at H
    have c11b0:(a0_2 == a1_2)=true:=beq_iff_eq.mpr c11;have c11b1:(a0_2 != a1_2)=false:=bne_eq_false_iff_eq.mpr c11;clear c11;obtain rfl:=Option.some.inj H;(try have:=NB503_504.out);(try have:=NB504_503.out);have hcz13_0:=cells3 BK503.out;have hcz14_0:=cells3 BK504.out
    go_wp2
    go_ret; exact ⟨er_, pB_ HB.out⟩
   ·rw [if_neg c11] at H
    have c11b0:(a0_2 == a1_2)=false:=beq_eq_false_iff_ne.mpr c11;have c11b1:(a0_2 != a1_2)=true:=bne_iff_ne.mpr c11;obtain rfl:=Option.some.inj H;(try have:=NB503_504.out);(try have:=NB504_503.out);have hcz16_0:=cells3 BK503.out;have hcz17_0:=cells3 BK504.out
    go_wp2
    go_ret; exact ⟨er_, pB_ HB.out⟩
  ·rw [if_neg c10] at H
   have c10b0:(a0_1 == a1_1)=false:=beq_eq_false_iff_ne.mpr c10;have c10b1:(a0_1 != a1_1)=true:=bne_iff_ne.mpr c10;obtain rfl:=Option.some.inj H;(try have:=NB503_504.out);(try have:=NB504_503.out);have hcz19_0:=cells3 BK503.out;have hcz20_0:=cells3 BK504.out
   go_wp2
   go_ret; exact ⟨er_, pB_ HB.out⟩
 ·rw [if_neg c9] at H
  have c9b0:(a0_0 == a1_0)=false:=beq_eq_false_iff_ne.mpr c9;have c9b1:(a0_0 != a1_0)=true:=bne_iff_ne.mpr c9;refine rw_ c9b0 ?_;obtain rfl:=Option.some.inj H
  go_wp2
  go_ret; exact ⟨er_, pB_ HB.out⟩

/-! ### laws_eqKid: function 71 -/
def laws_eqKid.f (a0_0 a0_1 : Int) (a0_2 : Bool) (a0_3 a0_4 a0_5 a1_0 a1_1 : Int) (a1_2 : Bool) (a1_3 a1_4 a1_5 : Int) : Option (Bool) := if a0_0 = a1_0 then (if a0_1 = a1_1 then (if (a0_2 != a1_2) = true then (some false) else ((laws_eqVec.f a0_3 a0_4 a0_5 a1_3 a1_4 a1_5).bind fun t507 => (if t507 = true then (some true) else (some false)))) else (some false)) else (some false)
set_option maxHeartbeats 8000000 in
set_option maxRecDepth 100000 in
theorem laws_eqKid.calls (a0_0 a0_1 : Int) (a0_2 : Bool) (a0_3 a0_4 a0_5 a1_0 a1_1 : Int) (a1_2 : Bool) (a1_3 a1_4 a1_5 : Int) (r : Bool) (w : World) (h : laws_eqKid.f a0_0 a0_1 a0_2 a0_3 a0_4 a0_5 a1_0 a1_1 a1_2 a1_3 a1_4 a1_5 = some r) :
  Calls Try.prog 71 #[.agg #[I L a0_0,I L a0_1,.bool a0_2,I L a0_3,I L a0_4,I L a0_5],.agg #[I L a1_0,I L a1_1,.bool a1_2,I L a1_3,I L a1_4,I L a1_5]] w fun e w'=>e=.returned (.bool r)∧Below w.heap.size w w':=by
 have hu51 := Try.underlying51
 have hu31 := Try.underlying31
 have HB := D (Below.refl w.heap.size w)
 have H:(if a0_0=a1_0 then (if a0_1=a1_1 then (if (a0_2 != a1_2)=true then (some false) else ((laws_eqVec.f a0_3 a0_4 a0_5 a1_3 a1_4 a1_5).bind fun t507=>(if t507=true then (some true) else (some false)))) else (some false)) else (some false))=some r:=h
 clear h
 have HU3 := D H
 clear H
 go_enter Try.func71, Try.ntmps71
 go_upto_if 9 with (first|((with_reducible refine gate_dst (N:=2) rfl ?_);refine bx_ (N:=2) (cs:=#[I L a0_0,I L a0_1,.bool a0_2,I L a0_3,I L a0_4,I L a0_5]) (t:=51) ?_;intro gb505 hg w4 hbox hb;have n_:=an_ (below_step (pB_ HB.out) hb)<|an_ (hbox)<|an_ (bg_ hg (pB_ HB.out):w.heap.size≤gb505)<|D (bg_ hg (pB_ HB.out):w.heap.size≤gb505);clear HB;obtain ⟨HB,BK505,GW505,GE505⟩:=n_;clear hb hbox hg)|((with_reducible refine gate_dst (N:=3) rfl ?_);refine bx_ (N:=3) (cs:=#[I L a1_0,I L a1_1,.bool a1_2,I L a1_3,I L a1_4,I L a1_5]) (t:=51) ?_;intro gb506 hg w5 hbox hb;have n_:=an_ (blk_below (pk_ BK505.out) hb)<|an_ (below_step (pB_ HB.out) hb)<|an_ (hbox)<|an_ (bg_ hg (pB_ HB.out):w.heap.size≤gb506)<|an_ (bg_ hg (pB_ HB.out):w.heap.size≤gb506)<|an_ (nl_ hg (pk_ BK505.out):gb505≠gb506)<|D (by rw [hg];exact Nat.ne_of_gt (blk_lt (pk_ BK505.out)):gb506≠gb505);clear BK505 HB;obtain ⟨BK505,HB,BK506,GW506,GE506,NB505_506,NB506_505⟩:=n_;clear hb hbox hg;(try have:=NB505_506.out);(try have:=NB506_505.out);have hcz7_0:=cells6 BK505.out;have hcz8_0:=cells6 BK506.out))
 have H := HU3.out
 clear HU3
 by_cases c9 : a0_0 = a1_0
 ·rw [if_pos c9] at H
  have c9b0:(a0_0 == a1_0)=true:=beq_iff_eq.mpr c9;have c9b1:(a0_0 != a1_0)=false:=bne_eq_false_iff_eq.mpr c9;clear c9;refine rw_ c9b0 ?_
  by_cases c10 : a0_1 = a1_1
  ·rw [if_pos c10] at H
   have c10b0 : (a0_1 == a1_1) = true := beq_iff_eq.mpr c10; have c10b1 : (a0_1 != a1_1) = false := bne_eq_false_iff_eq.mpr c10; clear c10
   by_cases c11 : (a0_2 != a1_2) = true
   ·rw [if_pos c11] at H
    have c11b0:(a0_2 != a1_2)=true:=c11;(try (have c11b1:decide (a0_2=a1_2)=false:=by simpa using c11));(try (have c11b2:(a0_2 == a1_2)=false:=by simpa using c11));(try (have c11b3:¬ (a0_2=a1_2):=by simpa using c11));clear c11;obtain rfl:=Option.some.inj H;(try have:=NB505_506.out);(try have:=NB506_505.out);have hcz13_0:=cells6 BK505.out;have hcz14_0:=cells6 BK506.out
    go_wp2
    go_ret; exact ⟨er_, pB_ HB.out⟩
   ·rw [if_neg c11] at H
    have c11b0 : (a0_2 != a1_2) = false := by simpa using c11
    (try (have c11b1:decide (a0_2=a1_2)=true:=by simpa using c11));(try (have c11b2:(a0_2 == a1_2)=true:=by simpa using c11));clear c11;obtain ⟨t507,A150,H⟩:=bs_.mp H;(try dsimp only at H);have A15:=D A150;clear A150;have HU16:=D H;clear H;(try have:=NB505_506.out);(try have:=NB506_505.out);have hcz18_0:=cells6 BK505.out;have hcz19_0:=cells6 BK506.out
    go_upto_if 25 with (first|((with_reducible refine gate_callee (f:=54) rfl ?_);refine goesL_ (some 24) rfl rfl Try.func54 (by kernel_rfl) rfl #[.agg #[I L a0_3,I L a0_4,I L a0_5],.agg #[I L a1_3,I L a1_4,I L a1_5]] rfl Z21 ?_;(with_reducible refine (laws_eqVec.calls a0_3 a0_4 a0_5 a1_3 a1_4 a1_5 t507 _ A15.out).mono ?_);rintro e w20 ⟨rfl,hb⟩;refine ⟨_,rfl,?_⟩;have n_:=an_ (blk_below (pk_ BK505.out) hb)<|an_ (blk_below (pk_ BK506.out) hb)<|D (below_step (pB_ HB.out) hb);clear BK505 BK506 HB;obtain ⟨BK505,BK506,HB⟩:=n_;(try clear hb)))
    have H := HU16.out; clear HU16
    by_cases c21 : t507 = true
    ·subst c21
     rw [if_pos rfl] at H; obtain rfl := Option.some.inj H
     go_wp2
     go_ret; exact ⟨er_, pB_ HB.out⟩
    ·replace c21 := Bool.eq_false_iff.mpr c21
     subst c21; rw [if_neg (show ¬ (false = true) by decide)] at H; obtain rfl := Option.some.inj H
     go_wp2
     go_ret; exact ⟨er_, pB_ HB.out⟩
  ·rw [if_neg c10] at H
   have c10b0:(a0_1 == a1_1)=false:=beq_eq_false_iff_ne.mpr c10;have c10b1:(a0_1 != a1_1)=true:=bne_iff_ne.mpr c10;obtain rfl:=Option.some.inj H;(try have:=NB505_506.out);(try have:=NB506_505.out);have hcz23_0:=cells6 BK505.out;have hcz24_0:=cells6 BK506.out
   go_wp2
   go_ret; exact ⟨er_, pB_ HB.out⟩
 ·rw [if_neg c9] at H
  have c9b0:(a0_0 == a1_0)=false:=beq_eq_false_iff_ne.mpr c9;have c9b1:(a0_0 != a1_0)=true:=bne_iff_ne.mpr c9;refine rw_ c9b0 ?_;obtain rfl:=Option.some.inj H
  go_wp2
  go_ret; exact ⟨er_, pB_ HB.out⟩

/-! ### laws_eqKidS: function 55 -/
def laws_eqKidS.l0 : Nat → List (S51) → List (S51) → Int → Option (Bool)
 | 0, _, _, _ => none
 | k + 1,x0,x1,x5=>if x5 < (x0.length:Int) then (if 0≤x5 then (if x5 < (x1.length:Int) then ((laws_eqKid.f ((rd_T51 x0 x5).f0) ((rd_T51 x0 x5).f1) ((rd_T51 x0 x5).f2) ((rd_T51 x0 x5).f3.f0) ((rd_T51 x0 x5).f3.f1) ((rd_T51 x0 x5).f3.f2) ((rd_T51 x1 x5).f0) ((rd_T51 x1 x5).f1) ((rd_T51 x1 x5).f2) ((rd_T51 x1 x5).f3.f0) ((rd_T51 x1 x5).f3.f1) ((rd_T51 x1 x5).f3.f2)).bind fun t510=>(if t510=true then (laws_eqKidS.l0 k x0 x1 (wrap64 (x5 + 1))) else (some false))) else (none)) else (none)) else (some true)
def laws_eqKidS.f (k : Nat) (l0 l1 : List (S51)) : Option (Bool) := if (l0.length : Int) = (l1.length : Int) then (laws_eqKidS.l0 k l0 l1 0) else (some false)
def laws_eqKidS.T6 : Bool × List (List Nat × List Nat) := (true, [([], []), ([], []), ([0, 1], [0, 1]), ([2], [2]), ([], []), ([], []), ([4, 5], [4, 5]), ([6], [6]), ([3, 7], [3, 7]), ([8], [8])])
def laws_eqKidS.B6 : List Nat := [0, 0, 3, 7, 0, 0, 48, 112, 255, 511]
theorem laws_eqKidS.tab6 : rtab .any (opsOf Try.f55 6) = laws_eqKidS.T6 := by kernel_rfl
theorem laws_eqKidS.bits6 : waitsOk laws_eqKidS.T6.2 laws_eqKidS.B6 = true := by kernel_rfl
set_option maxHeartbeats 8000000 in
set_option maxRecDepth 100000 in
theorem laws_eqKidS.calls (k : Nat) (A0 : Option Addr) (c0 : Nat) (l0 : List (S51)) (A1 : Option Addr) (c1 : Nat) (l1 : List (S51)) (r : Bool) (w : World) (hr0 : Kd.C k51 w A0 l0.length l0) (hc0 : l0.length ≤ c0) (hr1 : Kd.C k51 w A1 l1.length l1) (hc1 : l1.length ≤ c1) (h : laws_eqKidS.f k l0 l1 = some r) :
  Calls Try.prog 55 #[Y A0 l0.length c0, Y A1 l1.length c1] w fun e w' => e = .returned (.bool r) ∧ Below w.heap.size w w' := by
 have hu51 := Try.underlying51
 have HR0 := D hr0
 have HC0 := D hc0
 clear hr0 hc0
 have HR1 := D hr1
 have HC1 := D hc1
 clear hr1 hc1
 have HB := D (Below.refl w.heap.size w)
 have H : (if (l0.length : Int) = (l1.length : Int) then (laws_eqKidS.l0 k l0 l1 0) else (some false)) = some r := h
 clear h
 by_cases c3 : (l0.length : Int) = (l1.length : Int)
 ·rw [if_pos c3] at H
  have c3b0 : ((l0.length : Int) == (l1.length : Int)) = true := beq_iff_eq.mpr c3; have c3b1 : ((l0.length : Int) != (l1.length : Int)) = false := bne_eq_false_iff_eq.mpr c3
  have c3b2 : (l0.length == l1.length) = true := by first | simpa using c3 | (simp at c3 ⊢; omega)
  clear c3; have H' := D H; clear H; go_enter Try.func55, Try.ntmps55
  go_wp2
  go_loopg [5] k (fun kq v5 w' => ∃ (x5_1 : Int), v5 = I L x5_1 ∧ Aside0 (laws_eqKidS.l0 kq l0 l1 x5_1 = some r) ∧ Aside0 (kq ≤ k) ∧ Aside0 (Below w.heap.size w w'))
  case atStart => exact ⟨(0), Z53, H', ⟨Nat.le_refl _⟩, ⟨pB_ HB.out⟩⟩
  case round =>
   clear H'
   (try clear c1);(try clear p2);(try clear c3);(try clear c3b0);(try clear c3b1);(try clear c3b2)
   obtain ⟨x5_1, rfl, HA, HK1, HB⟩ := hrel
   cases gk with
   | zero => exact absurd HA.out (by simp [laws_eqKidS.l0])
   | succ k1 =>
    have H := HA.out; clear HA; simp only [laws_eqKidS.l0] at H
    by_cases c4 : x5_1 < (l0.length : Int)
    ·rw [if_pos c4] at H
     have c4b0 : decide (x5_1 < (l0.length : Int)) = true := decide_eq_true c4; clear c4
     by_cases c5 : 0 ≤ x5_1
     ·rw [if_pos c5] at H
      have c5b0 : decide (0 ≤ x5_1) = true := decide_eq_true c5; clear c5
      by_cases c6 : x5_1 < (l1.length : Int)
      ·rw [if_pos c6] at H
       have c6b0:decide (x5_1 < (l1.length:Int))=true:=decide_eq_true c6;clear c6;obtain ⟨t510,A70,H⟩:=bs_.mp H;(try dsimp only at H);have A7:=D A70;clear A70;have HU8:=D H;clear H
       try go_wp2
       have n0_:=D (below_drew1 HB.out);clear HB;have HB:=n0_;clear n0_;have p508:0≤(x5_1:Int):=od_ Z52;have q508:x5_1 < (l0.length:Int):=od_ Z52;obtain ⟨ad508,e508,hx508_0,hx508_1,hx508_2,hx508_3,hx508_4,hx508_5⟩:=at_T51 HR0.out x5_1 p508 q508;have hw508_5:=hx508_5;have hw508_4:=hx508_4;have hw508_3:=hx508_3;have hw508_2:=hx508_2;have hw508_1:=hx508_1;have hw508_0:=hx508_0;cases e508;replace hx508_0:=rc_ HB.out hx508_0;replace hx508_1:=rc_ HB.out hx508_1;replace hx508_2:=rc_ HB.out hx508_2;replace hx508_3:=rc_ HB.out hx508_3;replace hx508_4:=rc_ HB.out hx508_4;replace hx508_5:=rc_ HB.out hx508_5;replace p508:=eq_true p508;replace q508:=eq_true q508;have p509:0≤(x5_1:Int):=od_ Z52;have q509:x5_1 < (l1.length:Int):=od_ Z52;obtain ⟨ad509,e509,hx509_0,hx509_1,hx509_2,hx509_3,hx509_4,hx509_5⟩:=at_T51 HR1.out x5_1 p509 q509;have hw509_5:=hx509_5;have hw509_4:=hx509_4;have hw509_3:=hx509_3;have hw509_2:=hx509_2;have hw509_1:=hx509_1;have hw509_0:=hx509_0;cases e509;replace hx509_0:=rc_ HB.out hx509_0;replace hx509_1:=rc_ HB.out hx509_1;replace hx509_2:=rc_ HB.out hx509_2;replace hx509_3:=rc_ HB.out hx509_3;replace hx509_4:=rc_ HB.out hx509_4;replace hx509_5:=rc_ HB.out hx509_5;replace p509:=eq_true p509;replace q509:=eq_true q509;refine start_ (n:=10) (S:=fun w'=>w'.cell? (ad508.add ((x5_1).toNat * 6))=some (I L ((rd_T51 l0 x5_1).f0))∧w'.cell? ⟨(ad508.add ((x5_1).toNat * 6)).block,(ad508.add ((x5_1).toNat * 6)).off + 1,none⟩=some (I L ((rd_T51 l0 x5_1).f1))∧w'.cell? ⟨(ad508.add ((x5_1).toNat * 6)).block,(ad508.add ((x5_1).toNat * 6)).off + 2,none⟩=some (.bool ((rd_T51 l0 x5_1).f2))∧w'.cell? ⟨(ad508.add ((x5_1).toNat * 6)).block,(ad508.add ((x5_1).toNat * 6)).off + 3,none⟩=some (I L ((rd_T51 l0 x5_1).f3.f0))∧w'.cell? ⟨(ad508.add ((x5_1).toNat * 6)).block,(ad508.add ((x5_1).toNat * 6)).off + 4,none⟩=some (I L ((rd_T51 l0 x5_1).f3.f1))∧w'.cell? ⟨(ad508.add ((x5_1).toNat * 6)).block,(ad508.add ((x5_1).toNat * 6)).off + 5,none⟩=some (I L ((rd_T51 l0 x5_1).f3.f2))∧w'.cell? (ad509.add ((x5_1).toNat * 6))=some (I L ((rd_T51 l1 x5_1).f0))∧w'.cell? ⟨(ad509.add ((x5_1).toNat * 6)).block,(ad509.add ((x5_1).toNat * 6)).off + 1,none⟩=some (I L ((rd_T51 l1 x5_1).f1))∧w'.cell? ⟨(ad509.add ((x5_1).toNat * 6)).block,(ad509.add ((x5_1).toNat * 6)).off + 2,none⟩=some (.bool ((rd_T51 l1 x5_1).f2))∧w'.cell? ⟨(ad509.add ((x5_1).toNat * 6)).block,(ad509.add ((x5_1).toNat * 6)).off + 3,none⟩=some (I L ((rd_T51 l1 x5_1).f3.f0))∧w'.cell? ⟨(ad509.add ((x5_1).toNat * 6)).block,(ad509.add ((x5_1).toNat * 6)).off + 4,none⟩=some (I L ((rd_T51 l1 x5_1).f3.f1))∧w'.cell? ⟨(ad509.add ((x5_1).toNat * 6)).block,(ad509.add ((x5_1).toNat * 6)).off + 5,none⟩=some (I L ((rd_T51 l1 x5_1).f3.f2))) (ds:=[]) (bz 10 0) (by kernel_rfl) rfl (by kernel_rfl) (rk6_ HB.out hw508_0 hw508_1 hw508_2 hw508_3 hw508_4 hw508_5 (re6_ HB.out hw509_0 hw509_1 hw509_2 hw509_3 hw509_4 hw509_5)) (fun hHeld=>?_);refine with_tabW laws_eqKidS.tab6 laws_eqKidS.bits6 (fun HT_ HW_=>?_)
       generalize wr.drew=w9 at HB hx508_0 hx508_1 hx508_2 hx508_3 hx508_4 hx508_5 hx509_0 hx509_1 hx509_2 hx509_3 hx509_4 hx509_5 hHeld ⊢;refine pb_ 0 ?_;refine pb_ 1 ?_;refine pb_ 2 ?_;refine pb_ 4 ?_;refine pb_ 5 ?_;refine pb_ 6 ?_;refine tb_ 3 rfl rfl hHeld Z46 ?_;refine tb_ 7 rfl rfl hHeld Z46 ?_;refine oa_ 8 25 10 511 HT_ (fun K hK=>?_);refine goes_ Try.func71 (by kernel_rfl) rfl #[.agg #[I L ((rd_T51 l0 x5_1).f0),I L ((rd_T51 l0 x5_1).f1),.bool ((rd_T51 l0 x5_1).f2),I L ((rd_T51 l0 x5_1).f3.f0),I L ((rd_T51 l0 x5_1).f3.f1),I L ((rd_T51 l0 x5_1).f3.f2)],.agg #[I L ((rd_T51 l1 x5_1).f0),I L ((rd_T51 l1 x5_1).f1),.bool ((rd_T51 l1 x5_1).f2),I L ((rd_T51 l1 x5_1).f3.f0),I L ((rd_T51 l1 x5_1).f3.f1),I L ((rd_T51 l1 x5_1).f3.f2)]] (by rfl) rfl rfl Z21 ?_;with_reducible refine (laws_eqKid.calls ((rd_T51 l0 x5_1).f0) ((rd_T51 l0 x5_1).f1) ((rd_T51 l0 x5_1).f2) ((rd_T51 l0 x5_1).f3.f0) ((rd_T51 l0 x5_1).f3.f1) ((rd_T51 l0 x5_1).f3.f2) ((rd_T51 l1 x5_1).f0) ((rd_T51 l1 x5_1).f1) ((rd_T51 l1 x5_1).f2) ((rd_T51 l1 x5_1).f3.f0) ((rd_T51 l1 x5_1).f3.f1) ((rd_T51 l1 x5_1).f3.f2) t510 _ A7.out).mono ?_
       rintro e w10 ⟨rfl,hb⟩;refine ⟨_,rfl,?_⟩;have n0_:=D (below_step (pB_ HB.out) hb);clear HB;have HB:=n0_;clear n0_;(try clear hb);refine hK.out _ _ (rk6_ HB.out hw508_0 hw508_1 hw508_2 hw508_3 hw508_4 hw508_5 (re6_ HB.out hw509_0 hw509_1 hw509_2 hw509_3 hw509_4 hw509_5)) (fun hHeld=>?_);clear hK K;refine nx_ (N:=some 25) ?_;refine pb_ 9 ?_;refine done_ (done_of HT_.out (by kernel_rfl)) ?_
       go_upto_if 26 with (fail)
       have H := HU8.out; clear HU8
       by_cases c11 : t510 = true
       ·subst c11
        rw [if_pos rfl] at H; have H' := D H; clear H
        go_wp2
        go_roundg k1
        case measure => have := HK1.out; omega
        case rel => exact ⟨(wrap64 (x5_1 + 1)), Z53, H', ⟨by have := HK1.out; omega⟩, ⟨pB_ HB.out⟩⟩
       ·replace c11 := Bool.eq_false_iff.mpr c11
        subst c11; rw [if_neg (show ¬ (false = true) by decide)] at H; obtain rfl := Option.some.inj H
        go_wp2
        go_ret; exact ⟨er_, pB_ HB.out⟩
      ·rw [if_neg c6] at H
       exact absurd H (by simp)
     ·rw [if_neg c5] at H
      exact absurd H (by simp)
    ·rw [if_neg c4] at H
     have c4b0 : decide (x5_1 < (l0.length : Int)) = false := decide_eq_false c4; clear c4; obtain rfl := Option.some.inj H
     go_wp2
     go_ret; exact ⟨er_, pB_ HB.out⟩
 ·rw [if_neg c3] at H
  have c3b0 : ((l0.length : Int) == (l1.length : Int)) = false := beq_eq_false_iff_ne.mpr c3; have c3b1 : ((l0.length : Int) != (l1.length : Int)) = true := bne_iff_ne.mpr c3
  have c3b2 : (l0.length == l1.length) = false := by first | simpa using c3 | (simp at c3 ⊢; omega)
  obtain rfl := Option.some.inj H; go_enter Try.func55, Try.ntmps55
  go_wp2
  go_ret; exact ⟨er_, pB_ HB.out⟩

/-! ### laws_eqFair: function 26 -/
def laws_eqFair.f (k : Nat) (a0_0 a0_1 a0_2 a0_3 : Int) (l0_4 : List (S51)) (a1_0 a1_1 a1_2 a1_3 : Int) (l1_4 : List (S51)) : Option (Bool) := if a0_0 = a1_0 then ((laws_eqVec.f a0_1 a0_2 a0_3 a1_1 a1_2 a1_3).bind fun t513 => (if t513 = true then ((laws_eqKidS.f k l0_4 l1_4).bind fun t514 => (if t514 = true then (some true) else (some false))) else (some false))) else (some false)
set_option maxHeartbeats 8000000 in
set_option maxRecDepth 100000 in
theorem laws_eqFair.calls (k : Nat) (a0_0 a0_1 a0_2 a0_3 : Int) (A0_4 : Option Addr) (c0_4 : Nat) (l0_4 : List (S51)) (a1_0 a1_1 a1_2 a1_3 : Int) (A1_4 : Option Addr) (c1_4 : Nat) (l1_4 : List (S51)) (r : Bool) (w : World) (hr0_4 : Kd.C k51 w A0_4 l0_4.length l0_4) (hc0_4 : l0_4.length ≤ c0_4) (hr1_4 : Kd.C k51 w A1_4 l1_4.length l1_4) (hc1_4 : l1_4.length ≤ c1_4) (h : laws_eqFair.f k a0_0 a0_1 a0_2 a0_3 l0_4 a1_0 a1_1 a1_2 a1_3 l1_4 = some r) :
  Calls Try.prog 26 #[.agg #[I L a0_0,I L a0_1,I L a0_2,I L a0_3,Y A0_4 l0_4.length c0_4],.agg #[I L a1_0,I L a1_1,I L a1_2,I L a1_3,Y A1_4 l1_4.length c1_4]] w fun e w'=>e=.returned (.bool r)∧Below w.heap.size w w':=by
 have hu34 := Try.underlying34
 have hu31 := Try.underlying31
 have HR0_4 := D hr0_4
 have HC0_4 := D hc0_4
 clear hr0_4 hc0_4
 have HR1_4 := D hr1_4
 have HC1_4 := D hc1_4
 clear hr1_4 hc1_4
 have HB := D (Below.refl w.heap.size w)
 have H:(if a0_0=a1_0 then ((laws_eqVec.f a0_1 a0_2 a0_3 a1_1 a1_2 a1_3).bind fun t513=>(if t513=true then ((laws_eqKidS.f k l0_4 l1_4).bind fun t514=>(if t514=true then (some true) else (some false))) else (some false))) else (some false))=some r:=h
 clear h
 have HU3 := D H
 clear H
 go_enter Try.func26, Try.ntmps26
 go_upto_if 9 with (first|((with_reducible refine gate_dst (N:=2) rfl ?_);refine bx_ (N:=2) (cs:=#[I L a0_0,I L a0_1,I L a0_2,I L a0_3,Y A0_4 l0_4.length c0_4]) (t:=34) ?_;intro gb511 hg w4 hbox hb;have n_:=an_ (below_step (pB_ HB.out) hb)<|an_ (hbox)<|an_ (bg_ hg (pB_ HB.out):w.heap.size≤gb511)<|D (bg_ hg (pB_ HB.out):w.heap.size≤gb511);clear HB;obtain ⟨HB,BK511,GW511,GE511⟩:=n_;clear hb hbox hg)|((with_reducible refine gate_dst (N:=3) rfl ?_);refine bx_ (N:=3) (cs:=#[I L a1_0,I L a1_1,I L a1_2,I L a1_3,Y A1_4 l1_4.length c1_4]) (t:=34) ?_;intro gb512 hg w5 hbox hb;have n_:=an_ (blk_below (pk_ BK511.out) hb)<|an_ (below_step (pB_ HB.out) hb)<|an_ (hbox)<|an_ (bg_ hg (pB_ HB.out):w.heap.size≤gb512)<|an_ (bg_ hg (pB_ HB.out):w.heap.size≤gb512)<|an_ (nl_ hg (pk_ BK511.out):gb511≠gb512)<|D (by rw [hg];exact Nat.ne_of_gt (blk_lt (pk_ BK511.out)):gb512≠gb511);clear BK511 HB;obtain ⟨BK511,HB,BK512,GW512,GE512,NB511_512,NB512_511⟩:=n_;clear hb hbox hg;(try have:=NB511_512.out);(try have:=NB512_511.out);have hcz7_0:=cells5 BK511.out;have hcz8_0:=cells5 BK512.out))
 have H := HU3.out
 clear HU3
 by_cases c9 : a0_0 = a1_0
 ·rw [if_pos c9] at H
  have c9b0:(a0_0 == a1_0)=true:=beq_iff_eq.mpr c9;have c9b1:(a0_0 != a1_0)=false:=bne_eq_false_iff_eq.mpr c9;clear c9;refine rw_ c9b0 ?_;obtain ⟨t513,A100,H⟩:=bs_.mp H;(try dsimp only at H);have A10:=D A100;clear A100;have HU11:=D H;clear H;(try have:=NB511_512.out);(try have:=NB512_511.out);have hcz13_0:=cells5 BK511.out;have hcz14_0:=cells5 BK512.out
  go_upto_if 15 with (first|((with_reducible refine gate_callee (f:=54) rfl ?_);refine goesL_ (some 14) rfl rfl Try.func54 (by kernel_rfl) rfl #[.agg #[I L a0_1,I L a0_2,I L a0_3],.agg #[I L a1_1,I L a1_2,I L a1_3]] rfl Z21 ?_;(with_reducible refine (laws_eqVec.calls a0_1 a0_2 a0_3 a1_1 a1_2 a1_3 t513 _ A10.out).mono ?_);rintro e w15 ⟨rfl,hb⟩;refine ⟨_,rfl,?_⟩;have n_:=an_ (blk_below (pk_ BK511.out) hb)<|an_ (blk_below (pk_ BK512.out) hb)<|D (below_step (pB_ HB.out) hb);clear BK511 BK512 HB;obtain ⟨BK511,BK512,HB⟩:=n_;(try clear hb)))
  have H := HU11.out; clear HU11
  by_cases c16 : t513 = true
  ·subst c16
   rw [if_pos rfl] at H;obtain ⟨t514,A170,H⟩:=bs_.mp H;(try dsimp only at H);have A17:=D A170;clear A170;have HU18:=D H;clear H;(try have:=NB511_512.out);(try have:=NB512_511.out);have hcz20_0:=cells5 BK511.out;have hcz21_0:=cells5 BK512.out
   go_upto_if 21 with (first|((with_reducible refine gate_callee (f:=55) rfl ?_);refine goesL_ (some 20) rfl rfl Try.func55 (by kernel_rfl) rfl #[Y A0_4 l0_4.length c0_4,Y A1_4 l1_4.length c1_4] rfl Z21 ?_;(with_reducible refine (laws_eqKidS.calls k _ _ l0_4 _ _ l1_4 t514 _ ?side1 ?side2 ?side3 ?side4 A17.out).mono ?_);(case side1=>exact pC_ (Kd.C_below HR0_4.out HB.out));(case side2=>exact HC0_4.out);(case side3=>exact pC_ (Kd.C_below HR1_4.out HB.out));(case side4=>exact HC1_4.out);rintro e w22 ⟨rfl,hb⟩;refine ⟨_,rfl,?_⟩;have n_:=an_ (blk_below (pk_ BK511.out) hb)<|an_ (blk_below (pk_ BK512.out) hb)<|D (below_step (pB_ HB.out) hb);clear BK511 BK512 HB;obtain ⟨BK511,BK512,HB⟩:=n_;(try clear hb)))
   have H := HU18.out; clear HU18
   by_cases c23 : t514 = true
   ·subst c23
    rw [if_pos rfl] at H; obtain rfl := Option.some.inj H
    go_wp2
    go_ret; exact ⟨er_, pB_ HB.out⟩
   ·replace c23 := Bool.eq_false_iff.mpr c23
    subst c23; rw [if_neg (show ¬ (false = true) by decide)] at H; obtain rfl := Option.some.inj H
    go_wp2
    go_ret; exact ⟨er_, pB_ HB.out⟩
  ·replace c16 := Bool.eq_false_iff.mpr c16
   subst c16; rw [if_neg (show ¬ (false = true) by decide)] at H; obtain rfl := Option.some.inj H
   go_wp2
   go_ret; exact ⟨er_, pB_ HB.out⟩
 ·rw [if_neg c9] at H
  have c9b0:(a0_0 == a1_0)=false:=beq_eq_false_iff_ne.mpr c9;have c9b1:(a0_0 != a1_0)=true:=bne_iff_ne.mpr c9;refine rw_ c9b0 ?_;obtain rfl:=Option.some.inj H
  go_wp2
  go_ret; exact ⟨er_, pB_ HB.out⟩

/-! ### laws_eqBranch: function 56 -/
def laws_eqBranch.f (k : Nat) (a0_0 a0_1 a0_2 a0_3 a0_4 : Int) (l0_5 : List (S51)) (a1_0 a1_1 a1_2 a1_3 a1_4 : Int) (l1_5 : List (S51)) : Option (Bool) := if a0_0 = a1_0 then ((laws_eqFair.f k a0_1 a0_2 a0_3 a0_4 l0_5 a1_1 a1_2 a1_3 a1_4 l1_5).bind fun t517 => (if t517 = true then (some true) else (some false))) else (some false)
set_option maxHeartbeats 8000000 in
set_option maxRecDepth 100000 in
theorem laws_eqBranch.calls (k : Nat) (a0_0 a0_1 a0_2 a0_3 a0_4 : Int) (A0_5 : Option Addr) (c0_5 : Nat) (l0_5 : List (S51)) (a1_0 a1_1 a1_2 a1_3 a1_4 : Int) (A1_5 : Option Addr) (c1_5 : Nat) (l1_5 : List (S51)) (r : Bool) (w : World) (hr0_5 : Kd.C k51 w A0_5 l0_5.length l0_5) (hc0_5 : l0_5.length ≤ c0_5) (hr1_5 : Kd.C k51 w A1_5 l1_5.length l1_5) (hc1_5 : l1_5.length ≤ c1_5) (h : laws_eqBranch.f k a0_0 a0_1 a0_2 a0_3 a0_4 l0_5 a1_0 a1_1 a1_2 a1_3 a1_4 l1_5 = some r) :
  Calls Try.prog 56 #[.agg #[I L a0_0,I L a0_1,I L a0_2,I L a0_3,I L a0_4,Y A0_5 l0_5.length c0_5],.agg #[I L a1_0,I L a1_1,I L a1_2,I L a1_3,I L a1_4,Y A1_5 l1_5.length c1_5]] w fun e w'=>e=.returned (.bool r)∧Below w.heap.size w w':=by
 have hu54 := Try.underlying54
 have hu34 := Try.underlying34
 have HR0_5 := D hr0_5
 have HC0_5 := D hc0_5
 clear hr0_5 hc0_5
 have HR1_5 := D hr1_5
 have HC1_5 := D hc1_5
 clear hr1_5 hc1_5
 have HB := D (Below.refl w.heap.size w)
 have H:(if a0_0=a1_0 then ((laws_eqFair.f k a0_1 a0_2 a0_3 a0_4 l0_5 a1_1 a1_2 a1_3 a1_4 l1_5).bind fun t517=>(if t517=true then (some true) else (some false))) else (some false))=some r:=h
 clear h
 have HU3 := D H
 clear H
 go_enter Try.func56, Try.ntmps56
 go_upto_if 9 with (first|((with_reducible refine gate_dst (N:=2) rfl ?_);refine bx_ (N:=2) (cs:=#[I L a0_0,I L a0_1,I L a0_2,I L a0_3,I L a0_4,Y A0_5 l0_5.length c0_5]) (t:=54) ?_;intro gb515 hg w4 hbox hb;have n_:=an_ (below_step (pB_ HB.out) hb)<|an_ (hbox)<|an_ (bg_ hg (pB_ HB.out):w.heap.size≤gb515)<|D (bg_ hg (pB_ HB.out):w.heap.size≤gb515);clear HB;obtain ⟨HB,BK515,GW515,GE515⟩:=n_;clear hb hbox hg)|((with_reducible refine gate_dst (N:=3) rfl ?_);refine bx_ (N:=3) (cs:=#[I L a1_0,I L a1_1,I L a1_2,I L a1_3,I L a1_4,Y A1_5 l1_5.length c1_5]) (t:=54) ?_;intro gb516 hg w5 hbox hb;have n_:=an_ (blk_below (pk_ BK515.out) hb)<|an_ (below_step (pB_ HB.out) hb)<|an_ (hbox)<|an_ (bg_ hg (pB_ HB.out):w.heap.size≤gb516)<|an_ (bg_ hg (pB_ HB.out):w.heap.size≤gb516)<|an_ (nl_ hg (pk_ BK515.out):gb515≠gb516)<|D (by rw [hg];exact Nat.ne_of_gt (blk_lt (pk_ BK515.out)):gb516≠gb515);clear BK515 HB;obtain ⟨BK515,HB,BK516,GW516,GE516,NB515_516,NB516_515⟩:=n_;clear hb hbox hg;(try have:=NB515_516.out);(try have:=NB516_515.out);have hcz7_0:=cells6 BK515.out;have hcz8_0:=cells6 BK516.out))
 have H := HU3.out
 clear HU3
 by_cases c9 : a0_0 = a1_0
 ·rw [if_pos c9] at H
  have c9b0:(a0_0 == a1_0)=true:=beq_iff_eq.mpr c9;have c9b1:(a0_0 != a1_0)=false:=bne_eq_false_iff_eq.mpr c9;clear c9;refine rw_ c9b0 ?_;obtain ⟨t517,A100,H⟩:=bs_.mp H;(try dsimp only at H);have A10:=D A100;clear A100;have HU11:=D H;clear H;(try have:=NB515_516.out);(try have:=NB516_515.out);have hcz13_0:=cells6 BK515.out;have hcz14_0:=cells6 BK516.out
  go_upto_if 15 with (first|((with_reducible refine gate_callee (f:=26) rfl ?_);refine goesL_ (some 14) rfl rfl Try.func26 (by kernel_rfl) rfl #[.agg #[I L a0_1,I L a0_2,I L a0_3,I L a0_4,Y A0_5 l0_5.length c0_5],.agg #[I L a1_1,I L a1_2,I L a1_3,I L a1_4,Y A1_5 l1_5.length c1_5]] rfl Z21 ?_;(with_reducible refine (laws_eqFair.calls k a0_1 a0_2 a0_3 a0_4 _ _ l0_5 a1_1 a1_2 a1_3 a1_4 _ _ l1_5 t517 _ ?side1 ?side2 ?side3 ?side4 A10.out).mono ?_);(case side1=>exact pC_ (Kd.C_below HR0_5.out HB.out));(case side2=>exact HC0_5.out);(case side3=>exact pC_ (Kd.C_below HR1_5.out HB.out));(case side4=>exact HC1_5.out);rintro e w15 ⟨rfl,hb⟩;refine ⟨_,rfl,?_⟩;have n_:=an_ (blk_below (pk_ BK515.out) hb)<|an_ (blk_below (pk_ BK516.out) hb)<|D (below_step (pB_ HB.out) hb);clear BK515 BK516 HB;obtain ⟨BK515,BK516,HB⟩:=n_;(try clear hb)))
  have H := HU11.out; clear HU11
  by_cases c16 : t517 = true
  ·subst c16
   rw [if_pos rfl] at H; obtain rfl := Option.some.inj H
   go_wp2
   go_ret; exact ⟨er_, pB_ HB.out⟩
  ·replace c16 := Bool.eq_false_iff.mpr c16
   subst c16; rw [if_neg (show ¬ (false = true) by decide)] at H; obtain rfl := Option.some.inj H
   go_wp2
   go_ret; exact ⟨er_, pB_ HB.out⟩
 ·rw [if_neg c9] at H
  have c9b0:(a0_0 == a1_0)=false:=beq_eq_false_iff_ne.mpr c9;have c9b1:(a0_0 != a1_0)=true:=bne_iff_ne.mpr c9;refine rw_ c9b0 ?_;obtain rfl:=Option.some.inj H
  go_wp2
  go_ret; exact ⟨er_, pB_ HB.out⟩

/-! ### laws_eqBranchS: function 27 -/
def laws_eqBranchS.l0 : Nat → List (S54) → List (S54) → Int → Option (Bool)
 | 0, _, _, _ => none
 | k + 1,x0,x1,x5=>if x5 < (x0.length:Int) then (if 0≤x5 then (if x5 < (x1.length:Int) then ((laws_eqBranch.f k ((rd_T54 x0 x5).f0) ((rd_T54 x0 x5).f1.f0) ((rd_T54 x0 x5).f1.f1.f0) ((rd_T54 x0 x5).f1.f1.f1) ((rd_T54 x0 x5).f1.f1.f2) ((rd_T54 x0 x5).f1.f2) ((rd_T54 x1 x5).f0) ((rd_T54 x1 x5).f1.f0) ((rd_T54 x1 x5).f1.f1.f0) ((rd_T54 x1 x5).f1.f1.f1) ((rd_T54 x1 x5).f1.f1.f2) ((rd_T54 x1 x5).f1.f2)).bind fun t520=>(if t520=true then (laws_eqBranchS.l0 k x0 x1 (wrap64 (x5 + 1))) else (some false))) else (none)) else (none)) else (some true)
def laws_eqBranchS.f (k : Nat) (l0 l1 : List (S54)) : Option (Bool) := if (l0.length : Int) = (l1.length : Int) then (laws_eqBranchS.l0 k l0 l1 0) else (some false)
def laws_eqBranchS.T6 : Bool × List (List Nat × List Nat) := (true, [([], []), ([], []), ([0, 1], [0, 1]), ([2], [2]), ([], []), ([], []), ([4, 5], [4, 5]), ([6], [6]), ([3, 7], [3, 7]), ([8], [8])])
def laws_eqBranchS.B6 : List Nat := [0, 0, 3, 7, 0, 0, 48, 112, 255, 511]
theorem laws_eqBranchS.tab6 : rtab .any (opsOf Try.f27 6) = laws_eqBranchS.T6 := by kernel_rfl
theorem laws_eqBranchS.bits6 : waitsOk laws_eqBranchS.T6.2 laws_eqBranchS.B6 = true := by kernel_rfl
set_option maxHeartbeats 8000000 in
set_option maxRecDepth 100000 in
theorem laws_eqBranchS.calls (k : Nat) (A0 : Option Addr) (c0 : Nat) (l0 : List (S54)) (A1 : Option Addr) (c1 : Nat) (l1 : List (S54)) (r : Bool) (w : World) (hr0 : Kd.C k54 w A0 l0.length l0) (hc0 : l0.length ≤ c0) (hr1 : Kd.C k54 w A1 l1.length l1) (hc1 : l1.length ≤ c1) (h : laws_eqBranchS.f k l0 l1 = some r) :
  Calls Try.prog 27 #[Y A0 l0.length c0, Y A1 l1.length c1] w fun e w' => e = .returned (.bool r) ∧ Below w.heap.size w w' := by
 have hu54 := Try.underlying54
 have HR0 := D hr0
 have HC0 := D hc0
 clear hr0 hc0
 have HR1 := D hr1
 have HC1 := D hc1
 clear hr1 hc1
 have HB := D (Below.refl w.heap.size w)
 have H : (if (l0.length : Int) = (l1.length : Int) then (laws_eqBranchS.l0 k l0 l1 0) else (some false)) = some r := h
 clear h
 by_cases c3 : (l0.length : Int) = (l1.length : Int)
 ·rw [if_pos c3] at H
  have c3b0 : ((l0.length : Int) == (l1.length : Int)) = true := beq_iff_eq.mpr c3; have c3b1 : ((l0.length : Int) != (l1.length : Int)) = false := bne_eq_false_iff_eq.mpr c3
  have c3b2 : (l0.length == l1.length) = true := by first | simpa using c3 | (simp at c3 ⊢; omega)
  clear c3; have H' := D H; clear H; go_enter Try.func27, Try.ntmps27
  go_wp2
  go_loopg [5] k (fun kq v5 w' => ∃ (x5_1 : Int), v5 = I L x5_1 ∧ Aside0 (laws_eqBranchS.l0 kq l0 l1 x5_1 = some r) ∧ Aside0 (kq ≤ k) ∧ Aside0 (Below w.heap.size w w'))
  case atStart => exact ⟨(0), Z53, H', ⟨Nat.le_refl _⟩, ⟨pB_ HB.out⟩⟩
  case round =>
   clear H'
   (try clear c1);(try clear c2);(try clear p2);(try clear c3);(try clear c3b0);(try clear c3b1);(try clear c3b2)
   obtain ⟨x5_1, rfl, HA, HK1, HB⟩ := hrel
   cases gk with
   | zero => exact absurd HA.out (by simp [laws_eqBranchS.l0])
   | succ k1 =>
    have H := HA.out; clear HA; simp only [laws_eqBranchS.l0] at H
    by_cases c4 : x5_1 < (l0.length : Int)
    ·rw [if_pos c4] at H
     have c4b0 : decide (x5_1 < (l0.length : Int)) = true := decide_eq_true c4; clear c4
     by_cases c5 : 0 ≤ x5_1
     ·rw [if_pos c5] at H
      have c5b0 : decide (0 ≤ x5_1) = true := decide_eq_true c5; clear c5
      by_cases c6 : x5_1 < (l1.length : Int)
      ·rw [if_pos c6] at H
       have c6b0:decide (x5_1 < (l1.length:Int))=true:=decide_eq_true c6;clear c6;obtain ⟨t520,A70,H⟩:=bs_.mp H;(try dsimp only at H);have A7:=D A70;clear A70;have HU8:=D H;clear H
       try go_wp2
       have n0_:=D (below_drew1 HB.out);clear HB;have HB:=n0_;clear n0_;have p518:0≤(x5_1:Int):=od_ Z52;have q518:x5_1 < (l0.length:Int):=od_ Z52;obtain ⟨ad518,A518_5,c518_5,e518,hx518_0,hx518_1,hx518_2,hx518_3,hx518_4,hx518_5,hl518_5,hi518_5⟩:=at_T54 HR0.out x5_1 p518 q518;have hw518_5:=hx518_5;have hw518_4:=hx518_4;have hw518_3:=hx518_3;have hw518_2:=hx518_2;have hw518_1:=hx518_1;have hw518_0:=hx518_0;cases e518;replace hx518_0:=rc_ HB.out hx518_0;replace hx518_1:=rc_ HB.out hx518_1;replace hx518_2:=rc_ HB.out hx518_2;replace hx518_3:=rc_ HB.out hx518_3;replace hx518_4:=rc_ HB.out hx518_4;replace hx518_5:=rc_ HB.out hx518_5;have HR518_5:=D hi518_5;have HC518_5:=D hl518_5;clear hi518_5 hl518_5;replace p518:=eq_true p518;replace q518:=eq_true q518;have p519:0≤(x5_1:Int):=od_ Z52;have q519:x5_1 < (l1.length:Int):=od_ Z52;obtain ⟨ad519,A519_5,c519_5,e519,hx519_0,hx519_1,hx519_2,hx519_3,hx519_4,hx519_5,hl519_5,hi519_5⟩:=at_T54 HR1.out x5_1 p519 q519;have hw519_5:=hx519_5;have hw519_4:=hx519_4;have hw519_3:=hx519_3;have hw519_2:=hx519_2;have hw519_1:=hx519_1;have hw519_0:=hx519_0;cases e519;replace hx519_0:=rc_ HB.out hx519_0;replace hx519_1:=rc_ HB.out hx519_1;replace hx519_2:=rc_ HB.out hx519_2;replace hx519_3:=rc_ HB.out hx519_3;replace hx519_4:=rc_ HB.out hx519_4;replace hx519_5:=rc_ HB.out hx519_5;have HR519_5:=D hi519_5;have HC519_5:=D hl519_5;clear hi519_5 hl519_5;replace p519:=eq_true p519;replace q519:=eq_true q519;refine start_ (n:=10) (S:=fun w'=>w'.cell? (ad518.add ((x5_1).toNat * 6))=some (I L ((rd_T54 l0 x5_1).f0))∧w'.cell? ⟨(ad518.add ((x5_1).toNat * 6)).block,(ad518.add ((x5_1).toNat * 6)).off + 1,none⟩=some (I L ((rd_T54 l0 x5_1).f1.f0))∧w'.cell? ⟨(ad518.add ((x5_1).toNat * 6)).block,(ad518.add ((x5_1).toNat * 6)).off + 2,none⟩=some (I L ((rd_T54 l0 x5_1).f1.f1.f0))∧w'.cell? ⟨(ad518.add ((x5_1).toNat * 6)).block,(ad518.add ((x5_1).toNat * 6)).off + 3,none⟩=some (I L ((rd_T54 l0 x5_1).f1.f1.f1))∧w'.cell? ⟨(ad518.add ((x5_1).toNat * 6)).block,(ad518.add ((x5_1).toNat * 6)).off + 4,none⟩=some (I L ((rd_T54 l0 x5_1).f1.f1.f2))∧w'.cell? ⟨(ad518.add ((x5_1).toNat * 6)).block,(ad518.add ((x5_1).toNat * 6)).off + 5,none⟩=some (Y A518_5 ((rd_T54 l0 x5_1).f1.f2).length c518_5)∧w'.cell? (ad519.add ((x5_1).toNat * 6))=some (I L ((rd_T54 l1 x5_1).f0))∧w'.cell? ⟨(ad519.add ((x5_1).toNat * 6)).block,(ad519.add ((x5_1).toNat * 6)).off + 1,none⟩=some (I L ((rd_T54 l1 x5_1).f1.f0))∧w'.cell? ⟨(ad519.add ((x5_1).toNat * 6)).block,(ad519.add ((x5_1).toNat * 6)).off + 2,none⟩=some (I L ((rd_T54 l1 x5_1).f1.f1.f0))∧w'.cell? ⟨(ad519.add ((x5_1).toNat * 6)).block,(ad519.add ((x5_1).toNat * 6)).off + 3,none⟩=some (I L ((rd_T54 l1 x5_1).f1.f1.f1))∧w'.cell? ⟨(ad519.add ((x5_1).toNat * 6)).block,(ad519.add ((x5_1).toNat * 6)).off + 4,none⟩=some (I L ((rd_T54 l1 x5_1).f1.f1.f2))∧w'.cell? ⟨(ad519.add ((x5_1).toNat * 6)).block,(ad519.add ((x5_1).toNat * 6)).off + 5,none⟩=some (Y A519_5 ((rd_T54 l1 x5_1).f1.f2).length c519_5)) (ds:=[]) (bz 10 0) (by kernel_rfl) rfl (by kernel_rfl) (rk6_ HB.out hw518_0 hw518_1 hw518_2 hw518_3 hw518_4 hw518_5 (re6_ HB.out hw519_0 hw519_1 hw519_2 hw519_3 hw519_4 hw519_5)) (fun hHeld=>?_);refine with_tabW laws_eqBranchS.tab6 laws_eqBranchS.bits6 (fun HT_ HW_=>?_)
       generalize wr.drew=w9 at HB HR518_5 HR519_5 hx518_0 hx518_1 hx518_2 hx518_3 hx518_4 hx518_5 hx519_0 hx519_1 hx519_2 hx519_3 hx519_4 hx519_5 hHeld ⊢;refine pb_ 0 ?_;refine pb_ 1 ?_;refine pb_ 2 ?_;refine pb_ 4 ?_;refine pb_ 5 ?_;refine pb_ 6 ?_;refine tb_ 3 rfl rfl hHeld Z46 ?_;refine tb_ 7 rfl rfl hHeld Z46 ?_;refine oa_ 8 25 10 511 HT_ (fun K hK=>?_);refine goes_ Try.func56 (by kernel_rfl) rfl #[.agg #[I L ((rd_T54 l0 x5_1).f0),I L ((rd_T54 l0 x5_1).f1.f0),I L ((rd_T54 l0 x5_1).f1.f1.f0),I L ((rd_T54 l0 x5_1).f1.f1.f1),I L ((rd_T54 l0 x5_1).f1.f1.f2),Y A518_5 ((rd_T54 l0 x5_1).f1.f2).length c518_5],.agg #[I L ((rd_T54 l1 x5_1).f0),I L ((rd_T54 l1 x5_1).f1.f0),I L ((rd_T54 l1 x5_1).f1.f1.f0),I L ((rd_T54 l1 x5_1).f1.f1.f1),I L ((rd_T54 l1 x5_1).f1.f1.f2),Y A519_5 ((rd_T54 l1 x5_1).f1.f2).length c519_5]] (by rfl) rfl rfl Z21 ?_;with_reducible refine (laws_eqBranch.calls k1 ((rd_T54 l0 x5_1).f0) ((rd_T54 l0 x5_1).f1.f0) ((rd_T54 l0 x5_1).f1.f1.f0) ((rd_T54 l0 x5_1).f1.f1.f1) ((rd_T54 l0 x5_1).f1.f1.f2) _ _ ((rd_T54 l0 x5_1).f1.f2) ((rd_T54 l1 x5_1).f0) ((rd_T54 l1 x5_1).f1.f0) ((rd_T54 l1 x5_1).f1.f1.f0) ((rd_T54 l1 x5_1).f1.f1.f1) ((rd_T54 l1 x5_1).f1.f1.f2) _ _ ((rd_T54 l1 x5_1).f1.f2) t520 _ ?side1 ?side2 ?side3 ?side4 A7.out).mono ?_
       (case side1=>exact pC_ (Kd.C_below HR518_5.out HB.out));(case side2=>exact HC518_5.out);(case side3=>exact pC_ (Kd.C_below HR519_5.out HB.out));(case side4=>exact HC519_5.out);rintro e w10 ⟨rfl,hb⟩;refine ⟨_,rfl,?_⟩;have n0_:=D (below_step (pB_ HB.out) hb);clear HB;have HB:=n0_;clear n0_;(try clear hb);refine hK.out _ _ (rk6_ HB.out hw518_0 hw518_1 hw518_2 hw518_3 hw518_4 hw518_5 (re6_ HB.out hw519_0 hw519_1 hw519_2 hw519_3 hw519_4 hw519_5)) (fun hHeld=>?_);clear hK K;refine nx_ (N:=some 25) ?_;refine pb_ 9 ?_;refine done_ (done_of HT_.out (by kernel_rfl)) ?_
       go_upto_if 26 with (fail)
       have H := HU8.out; clear HU8
       by_cases c11 : t520 = true
       ·subst c11
        rw [if_pos rfl] at H; have H' := D H; clear H
        go_wp2
        go_roundg k1
        case measure => have := HK1.out; omega
        case rel => exact ⟨(wrap64 (x5_1 + 1)), Z53, H', ⟨by have := HK1.out; omega⟩, ⟨pB_ HB.out⟩⟩
       ·replace c11 := Bool.eq_false_iff.mpr c11
        subst c11; rw [if_neg (show ¬ (false = true) by decide)] at H; obtain rfl := Option.some.inj H
        go_wp2
        go_ret; exact ⟨er_, pB_ HB.out⟩
      ·rw [if_neg c6] at H
       exact absurd H (by simp)
     ·rw [if_neg c5] at H
      exact absurd H (by simp)
    ·rw [if_neg c4] at H
     have c4b0 : decide (x5_1 < (l0.length : Int)) = false := decide_eq_false c4; clear c4; obtain rfl := Option.some.inj H
     go_wp2
     go_ret; exact ⟨er_, pB_ HB.out⟩
 ·rw [if_neg c3] at H
  have c3b0 : ((l0.length : Int) == (l1.length : Int)) = false := beq_eq_false_iff_ne.mpr c3; have c3b1 : ((l0.length : Int) != (l1.length : Int)) = true := bne_iff_ne.mpr c3
  have c3b2 : (l0.length == l1.length) = false := by first | simpa using c3 | (simp at c3 ⊢; omega)
  obtain rfl := Option.some.inj H; go_enter Try.func27, Try.ntmps27
  go_wp2
  go_ret; exact ⟨er_, pB_ HB.out⟩

end Go.Proofs.Ytjfknflhajeglab.PFnExactTreeTenant
