-- by a program of this session's, over the kit's words
import Derived.Test.YtcindcakncngnaaPZFnHeapSorts
import Derived.Test.YtcindcakncngnaaPFnHeapSortsx0
import Derived.Test.YtcindcakncngnaaPFnHeapSortsx2
import Derived.Test.YtcindcakncngnaaPFnHeapSortsx3
namespace Go.Proofs.Ytcindcakncngnaa.PFnHeapSorts
open Go.RowKit Go.Proofs.YtcindcakncngnaaW.PrintWords Go.Proofs.YtcindcakncngnaaW.PrintLast Go.Proofs.YtcindcakncngnaaW.PrintMore Go.Proofs.YtcindcakncngnaaV Go.Proofs.Ytcindcakncngnaa.ZFnHeapSorts
open Go.Value renaming int → I, slice → Y
open Go.IntKind renaming i64 → L
open Aside0 renaming mk → D
open Option renaming bind_eq_some_iff → bs_
attribute [local go_sem] max2_int min2_int max_two min_two max_three min_three max_four min_four   -- for this text's walks alone
set_option linter.unusedVariables false
set_option linter.unusedSimpArgs false

/-! ### spec_l15Up: function 49 -/
mutual
def spec_l15Up.j0 : Nat → List (S32) → Int → Bool → Option ((List (S32)) × Int)
 | 0, _, _, _ => none
 | k + 1,x0,x1,x21=>if x21=true then (some (x0,x1)) else ((spec_l15Swap.f x0 x1 (wrap64 (Int.tdiv (wrap64 (x1 - 1)) 2))).bind fun t161=>((spec_l15Up.f k t161 (wrap64 (Int.tdiv (wrap64 (x1 - 1)) 2))).bind fun bt164=>(some (bt164.1,bt164.2))))
def spec_l15Up.f : Nat → List (S32) → Int → Option ((List (S32)) × Int)
 | 0, _, _ => none
 | k + 1,l0,a1=>if a1=0 then (spec_l15Up.j0 k l0 a1 true) else (if 0≤a1 then (if a1 < (l0.length:Int) then (if 0≤(wrap64 (Int.tdiv (wrap64 (a1 - 1)) 2)) then (if (wrap64 (Int.tdiv (wrap64 (a1 - 1)) 2)) < (l0.length:Int) then ((spec_Ahead.f ((rd_T32 l0 a1).f0) ((rd_T32 l0 a1).f1) ((rd_T32 l0 (wrap64 (Int.tdiv (wrap64 (a1 - 1)) 2))).f0) ((rd_T32 l0 (wrap64 (Int.tdiv (wrap64 (a1 - 1)) 2))).f1)).bind fun t160=>(spec_l15Up.j0 k l0 a1 (!t160))) else (none)) else (none)) else (none)) else (none))
end
def spec_l15Up.T1 : Bool × List (List Nat × List Nat) := (true, [([], []), ([0], [0]), ([1], [1]), ([2], [2]), ([2], [2]), ([3, 4, 2], [2, 3, 4]), ([5, 2], [2, 5]), ([2], [2]), ([2], [2]), ([8, 2], [2, 8]), ([9, 2], [2, 9]), ([7, 10, 2], [2, 7, 10]), ([11, 2], [2, 11]), ([6, 12, 2, 2], [2, 6, 12]), ([13, 2], [2, 13]), ([2, 14], [2, 14])])
def spec_l15Up.B1 : List Nat := [0, 1, 3, 7, 7, 31, 63, 7, 7, 263, 775, 1927, 3975, 8191, 16383, 32767]
theorem spec_l15Up.tab1 : rtab .any (opsOf Try.f49 1) = spec_l15Up.T1 := by kernel_rfl
theorem spec_l15Up.bits1 : waitsOk spec_l15Up.T1.2 spec_l15Up.B1 = true := by kernel_rfl
set_option maxHeartbeats 8000000 in
set_option maxRecDepth 100000 in
theorem spec_l15Up.calls (k : Nat) : ∀ (P0_ : Nat → Prop) (u9000_ : Value) (l0 : List (S32)) (a1 : Int) (r1 : List (S32)) (r2 : Int) (w0 w : World) (hB : Below w0.heap.size w0 w) (ho0 : Kd.R k32 32 w w0.heap.size P0_ u9000_ l0) (h : spec_l15Up.f k l0 a1 = some (r1, r2)),
  Calls Try.prog 49 #[u9000_,I L a1] w fun e w'=>∃ v0_:Value,e=.returned (.tuple #[v0_,I L r2])∧Kd.R k32 32 w' w0.heap.size (fun k_=>(P0_ k_ ∨ w.heap.size≤k_)) v0_ r1∧Below w0.heap.size w0 w'∧Kept w w' (fun k_=>P0_ k_):=by
 induction k using Nat.strongRecOn with
 | _ k ih =>
 intro P0_ u9000_ l0 a1 r1 r2 w0 w hB ho0 h
 cases k with
 | zero => exact absurd h (by simp [spec_l15Up.f])
 | succ k =>
 simp only [spec_l15Up.f] at h
 have hu32 := Try.underlying32
 have HO0 := D (show Kd.R k32 32 w w0.heap.size (fun k_ => (P0_ k_ ∨ w.heap.size ≤ k_)) u9000_ l0 from Kd.R_mono ho0 (fun k_ hk => (.inl hk)))
 have HK := D (Kept.refl w (fun k_ => P0_ k_))
 have HW0 := D hB.size
 have HB := D hB
 clear hB
 have H:(if a1=0 then (spec_l15Up.j0 k l0 a1 true) else (if 0≤a1 then (if a1 < (l0.length:Int) then (if 0≤(wrap64 (Int.tdiv (wrap64 (a1 - 1)) 2)) then (if (wrap64 (Int.tdiv (wrap64 (a1 - 1)) 2)) < (l0.length:Int) then ((spec_Ahead.f ((rd_T32 l0 a1).f0) ((rd_T32 l0 a1).f1) ((rd_T32 l0 (wrap64 (Int.tdiv (wrap64 (a1 - 1)) 2))).f0) ((rd_T32 l0 (wrap64 (Int.tdiv (wrap64 (a1 - 1)) 2))).f1)).bind fun t160=>(spec_l15Up.j0 k l0 a1 (!t160))) else (none)) else (none)) else (none)) else (none)))=some (r1,r2):=h
 clear h
 have HC3 := D H
 clear H
 go_enter Try.func49, Try.ntmps49
 go_upto_region 1 with (fail)
 go_cut [21] (fun v21 wc=>∃ (kq:Nat) (x21_2:Bool),v21=.bool x21_2∧Aside0 (spec_l15Up.j0 kq l0 a1 x21_2=some (r1,r2))∧Aside0 (kq≤k)∧Aside0 (Kd.R k32 32 wc w0.heap.size (fun k_=>(P0_ k_ ∨ w.heap.size≤k_)) u9000_ l0)∧Aside0 (Kept w wc (fun k_=>P0_ k_))∧Aside0 (Below w0.heap.size w0 wc))
 case first =>
  have H := HC3.out; clear HC3
  by_cases c4 : a1 = 0
  ·rw [if_pos c4] at H
   have c4b0:(a1 == 0)=true:=beq_iff_eq.mpr c4;have c4b1:(a1 != 0)=false:=bne_eq_false_iff_eq.mpr c4;clear c4;refine rw_ c4b0 ?_;have H':=D H;clear H
   try go_wp2
   have n_ := an_ (Kd.R_drew HO0.out) <| an_ (Kept.drew HK.out) <| D (below_drew1 HB.out)
   clear HO0 HK HB;obtain ⟨HO0,HK,HB⟩:=n_;refine start_ (n:=16) (S:=fun w'=>True) (ds:=[]) (bz 16 0) (by kernel_rfl) rfl (by kernel_rfl) trivial (fun hHeld=>?_);refine with_tabW spec_l15Up.tab1 spec_l15Up.bits1 (fun HT_ HW_=>?_);generalize w.drew=w5 at HO0 HK HB hHeld ⊢;refine pb_ 0 ?_;refine pb_ 1 ?_;refine pb_ 2 ?_;refine ob_ 3 ?_;refine ob_ 4 ?_;refine ob_ 5 ?_;refine ob_ 6 ?_;refine ob_ 7 ?_;refine ob_ 8 ?_;refine ob_ 9 ?_;refine ob_ 10 ?_;refine ob_ 11 ?_;refine ob_ 12 ?_;refine ob_ 13 ?_;refine ob_ 14 ?_;refine pb_ 15 ?_;refine done_ (done_of HT_.out (by kernel_rfl)) ?_
   try go_wp2
   go_meet
   case rel=>exact ⟨_,(true),Z23,H',⟨by first|omega|exact Nat.le_refl _⟩,⟨pR_ HO0.out⟩,⟨by repeat (first|(with_reducible first|exact HK.out|apply Kept.alloc|apply Kept.drewN|apply Kept.drew)|exact HK.out)⟩,⟨pB_ HB.out⟩⟩
  ·rw [if_neg c4] at H
   have c4b0:(a1 == 0)=false:=beq_eq_false_iff_ne.mpr c4;have c4b1:(a1 != 0)=true:=bne_iff_ne.mpr c4;refine rw_ c4b0 ?_
   by_cases c6 : 0 ≤ a1
   ·rw [if_pos c6] at H
    have c6b0 : decide (0 ≤ a1) = true := decide_eq_true c6; clear c6
    by_cases c7 : a1 < (l0.length : Int)
    ·rw [if_pos c7] at H
     have c7b0 : decide (a1 < (l0.length : Int)) = true := decide_eq_true c7; clear c7; obtain ⟨ji8, hji8⟩ : ∃ j_ : Int, (wrap64 (Int.tdiv (wrap64 (a1 - 1)) 2)) = j_ := ⟨_, rfl⟩
     replace H:(if 0≤(ji8) then (if (ji8) < (l0.length:Int) then ((spec_Ahead.f ((rd_T32 l0 a1).f0) ((rd_T32 l0 a1).f1) ((rd_T32 l0 (ji8)).f0) ((rd_T32 l0 (ji8)).f1)).bind fun t160=>(spec_l15Up.j0 k l0 a1 (!t160))) else (none)) else (none))=some (r1,r2):=by first|(rw [hji8] at H;exact H)|(simp only [hji8] at H ⊢;exact H)
     have hji8w : (IntKind.i64.wrap (Int.tdiv (wrap64 (a1 - 1)) 2)) = ji8 := (i64_w _).trans hji8
     by_cases c9 : 0 ≤ (ji8)
     ·rw [if_pos c9] at H
      have c9b0 : decide (0 ≤ (ji8)) = true := decide_eq_true c9; clear c9
      by_cases c10 : (ji8) < (l0.length : Int)
      ·rw [if_pos c10] at H
       have c10b0:decide ((ji8) < (l0.length:Int))=true:=decide_eq_true c10;clear c10;obtain ⟨t160,A110,H⟩:=bs_.mp H;(try dsimp only at H);have A11:=D A110;clear A110;have H':=D H;clear H
       try go_wp2
       have n_ := an_ (Kd.R_drew HO0.out) <| an_ (Kept.drew HK.out) <| D (below_drew1 HB.out)
       clear HO0 HK HB;obtain ⟨HO0,HK,HB⟩:=n_;obtain ⟨Ao13,co13,eo13⟩:=Kd.R_slice HO0.out;(first|subst eo13|obtain ⟨rfl,rfl⟩:=sl_inj eo13);have p158:0≤(a1:Int):=od_ Z22;have q158:a1 < (l0.length:Int):=od_ Z22;obtain ⟨ad158,e158,hx158_0,hx158_1⟩:=at_T32 (Kd.R_reads' HO0.out).2.2 a1 p158 q158;cases e158;replace p158:=eq_true p158;replace q158:=eq_true q158;have p159:0≤((ji8):Int):=od_ Z22;have q159:(ji8) < (l0.length:Int):=od_ Z22;obtain ⟨ad159,e159,hx159_0,hx159_1⟩:=at_T32 (Kd.R_reads' HO0.out).2.2 (ji8) p159 q159;obtain rfl:ad158=ad159:=(by injection e159);replace p159:=eq_true p159;replace q159:=eq_true q159;refine start_ (n:=16) (S:=fun w'=>w'.cell? (ad158.add ((a1).toNat * 2))=some (I L ((rd_T32 l0 a1).f0))∧w'.cell? ⟨(ad158.add ((a1).toNat * 2)).block,(ad158.add ((a1).toNat * 2)).off + 1,none⟩=some (I L ((rd_T32 l0 a1).f1))∧w'.cell? (ad158.add (((ji8)).toNat * 2))=some (I L ((rd_T32 l0 (ji8)).f0))∧w'.cell? ⟨(ad158.add (((ji8)).toNat * 2)).block,(ad158.add (((ji8)).toNat * 2)).off + 1,none⟩=some (I L ((rd_T32 l0 (ji8)).f1))) (ds:=[]) (bz 16 0) (by kernel_rfl) rfl (by kernel_rfl) ⟨hx158_0,hx158_1,hx159_0,hx159_1⟩ (fun hHeld=>?_);refine with_tabW spec_l15Up.tab1 spec_l15Up.bits1 (fun HT_ HW_=>?_);generalize w.drew=w12 at HO0 HK HB hx158_0 hx158_1 hx159_0 hx159_1 hHeld ⊢;refine pb_ 0 ?_;refine pb_ 1 ?_;refine pb_ 2 ?_;refine pb_ 3 ?_;refine pb_ 4 ?_;refine pb_ 5 ?_;refine pb_ 7 ?_;refine pb_ 8 ?_;refine pb_ 9 ?_;refine pb_ 10 ?_;refine pb_ 11 ?_;refine ta_ 6 12 16 4095 HT_ HW_ rfl rfl hHeld (by rintro w' ⟨s0,s1,s2,s3⟩;go_simp;with_reducible rfl) ?_;refine ta_ 12 18 16 8191 HT_ HW_ rfl rfl hHeld (by rintro w' ⟨s0,s1,s2,s3⟩;go_simp;with_reducible rfl) ?_;refine oa_ 13 19 16 16383 HT_ (fun K hK=>?_);refine goes_ Try.func15 (by kernel_rfl) rfl #[.agg #[I L ((rd_T32 l0 a1).f0),I L ((rd_T32 l0 a1).f1)],.agg #[I L ((rd_T32 l0 (ji8)).f0),I L ((rd_T32 l0 (ji8)).f1)]] (by rfl) rfl rfl Z8 ?_;with_reducible refine (spec_Ahead.calls ((rd_T32 l0 a1).f0) ((rd_T32 l0 a1).f1) ((rd_T32 l0 (ji8)).f0) ((rd_T32 l0 (ji8)).f1) t160 _ A11.out).mono ?_
       rintro e w14 ⟨rfl,hb⟩;have HS0_:=(hb.cell (World.block_lt_of_cell? _ _ (hHeld.1))).trans (hHeld.1);have HS1_:=(hb.cell (World.block_lt_of_cell? _ _ (hHeld.2.1))).trans (hHeld.2.1);have HS2_:=(hb.cell (World.block_lt_of_cell? _ _ (hHeld.2.2.1))).trans (hHeld.2.2.1);have HS3_:=(hb.cell (World.block_lt_of_cell? _ _ (hHeld.2.2.2))).trans (hHeld.2.2.2);refine ⟨_,rfl,?_⟩
       have n_ := an_ (Kd.R_below (pR_ HO0.out) hb) <| an_ (Kept.below (S := (fun k_ => P0_ k_)) Z11 hb) <| D (below_step (pB_ HB.out) hb)
       clear HO0 HK HB;obtain ⟨HO0,HK,HB⟩:=n_;refine hK.out _ _ ⟨HS0_,HS1_,HS2_,HS3_⟩ (fun hHeld=>?_);clear hK K;refine nx_ (N:=some 19) ?_;refine pb_ 14 ?_;refine pb_ 15 ?_;refine done_ (done_of HT_.out (by kernel_rfl)) ?_
       try go_wp2
       (try subst hji8)
       go_meet
       case rel=>exact ⟨_,(!t160),Z23,H',⟨by first|omega|exact Nat.le_refl _⟩,⟨pR_ HO0.out⟩,⟨by repeat (first|(with_reducible first|exact HK.out|apply Kept.alloc|apply Kept.drewN|apply Kept.drew)|exact HK.out)⟩,⟨pB_ HB.out⟩⟩
      ·rw [if_neg c10] at H
       exact absurd H (by simp)
     ·rw [if_neg c9] at H
      exact absurd H (by simp)
    ·rw [if_neg c7] at H
     exact absurd H (by simp)
   ·rw [if_neg c6] at H
    exact absurd H (by simp)
 case rest =>
  clear HC3
  (try clear c1);(try clear p1);(try clear q1);(try clear hx1);(try clear p2);(try clear c4);(try clear c4b0);(try clear c4b1);(try clear c6);(try clear c6b0);(try clear p6);(try clear c7);(try clear c7b0);(try clear c9);(try clear c9b0);(try clear c10);(try clear c10b0);(try clear hx158_0 hx158_1);(try clear hx159_0 hx159_1);(try clear p158);(try clear p159);(try clear q158);(try clear q159)
  obtain ⟨kq, x21_2, rfl, HA, HJ2, HO_0, HK, HB⟩ := hcut
  cases kq with
  | zero => exact absurd HA.out (by simp [spec_l15Up.j0])
  | succ kj2 =>
   have H := HA.out; clear HA; simp only [spec_l15Up.j0] at H
   by_cases c15 : x21_2 = true
   ·subst c15
    rw [if_pos rfl] at H; simp only [Option.some.injEq, Prod.mk.injEq] at H; obtain ⟨rfl, rfl⟩ := H
    go_wp2
    go_ret2;exact ⟨_,er_,by (with_reducible repeat (first|apply Kd.R_alloc|apply Kd.R_drewN|apply Kd.R_drew));exact HO_0.out,pB_ HB.out,by repeat (first|(with_reducible first|exact HK.out|apply Kept.alloc|apply Kept.drewN|apply Kept.drew)|exact HK.out)⟩
   ·replace c15 := Bool.eq_false_iff.mpr c15
    subst c15;rw [if_neg (show ¬ (false=true) by decide)] at H;obtain ⟨t161,A160,H⟩:=bs_.mp H;(try dsimp only at H);have A16:=D A160;clear A160;obtain ⟨⟨t164,t167⟩,A170,H⟩:=bs_.mp H;(try dsimp only at H);have A17:=D A170;clear A170;simp only [Option.some.injEq,Prod.mk.injEq] at H;obtain ⟨rfl,rfl⟩:=H;obtain ⟨Ao18,co18,eo18⟩:=Kd.R_slice HO_0.out;subst eo18
    go_wp2_with (first|((with_reducible refine gate_callee (f:=55) rfl ?_);refine goesL_ (some 29) rfl rfl Try.func55 (by kernel_rfl) rfl #[Y Ao18 l0.length co18,I L a1,I L (wrap64 (Int.tdiv (wrap64 (a1 - 1)) 2))] rfl Z9 ?_;(with_reducible refine (spec_l15Swap.calls _ _ l0 a1 (wrap64 (Int.tdiv (wrap64 (a1 - 1)) 2)) t161 _ ?side1 ?side2 A16.out).mono ?_);(case side1=>exact pC_ ((Kd.R_reads' HO_0.out).2.2));(case side2=>exact (Kd.R_reads' HO_0.out).2.1);rintro e w19 ⟨v162,rfl,ho0,hb⟩;refine ⟨_,rfl,?_⟩;have n_:=an_ (Kd.R_elder' (pR_ HO_0.out) (Kd.R_base ho0) hb)<|an_ (Kd.R_lower (nw_ (Kd.R_newM (M:=fun k_=>(P0_ k_ ∨ w.heap.size≤k_)) ho0 Z3 (fun k_ h_=>.inr h_)) (pR_ HO_0.out)) (below_size (pB_ HB.out)))<|an_ (Kept.below (S:=(fun k_=>P0_ k_)) Z11 hb)<|D (below_step (pB_ HB.out) hb);clear HO_0 HK HB;obtain ⟨HO_0,HO163,HK,HB⟩:=n_;(try clear hb);(try clear ho0);obtain ⟨Ao20,co20,eo20⟩:=Kd.R_slice HO163.out;subst eo20)|((with_reducible refine gate_callee (f:=49) rfl ?_);refine goesL_ (some 33) rfl rfl Try.func49 (by kernel_rfl) rfl #[Y Ao20 t161.length co20,I L (wrap64 (Int.tdiv (wrap64 (a1 - 1)) 2))] rfl Z9 ?_;(with_reducible refine (ih kj2 (by have:=HJ2.out;omega) (fun k_=>some k_=(Y Ao20 t161.length co20:Value).ownBlock) (Y Ao20 t161.length co20) t161 (wrap64 (Int.tdiv (wrap64 (a1 - 1)) 2)) t164 t167 w0 _ ?side1 ?side2 A17.out).mono ?_);(case side1=>exact pB_ HB.out);(case side2=>exact Kd.R_tight rfl HO163.out);rintro e w21 ⟨v165,rfl,ho0,hb,hkp⟩;refine ⟨_,rfl,?_⟩;have n_:=an_ (Kd.R_mono (ok':=fun k_=>(P0_ k_ ∨ w.heap.size≤k_)∧some k_≠(v165:Value).ownBlock) (Kd.R_keptB (HO_0.out) hkp (fun k_ hk_ hs_=>(hk_.2) hs_)) (fun k_ hk_=>⟨hk_.1.1,fun e_=>Or.elim (ho0.1 k_ e_.symm) (fun hs_=>hk_.2.1 hs_) (fun hn_=>Nat.not_le.2 hk_.2.2 hn_)⟩))<|an_ (Kd.R_mono (ok':=fun k_=>(P0_ k_ ∨ w.heap.size≤k_)∧some k_≠(Y Ao18 l0.length co18:Value).ownBlock) ho0 (fun k_ hk_=>⟨Or.elim hk_ (fun hs_=>(HO163.out.1 k_ (hs_).symm).1.1) (fun hn_=>(.inr (Nat.le_trans Z3 hn_))),Or.elim hk_ (fun hs_=>fun e_=>(((HO_0.out).1 k_ e_.symm).2) hs_) (fun hn_=>(Kd.fresh' (Kd.R_lt (pR_ HO_0.out)) k_ hn_))⟩))<|an_ (Kept.then_ (S:=(fun k_=>P0_ k_)) Z11 hkp (fun k_ hs_=>(fun e_=>(HO163.out.1 k_ e_.symm).1.1) hs_))<|D (hb);clear HO_0 HK HB HO163;obtain ⟨HO_0,HO166,HK,HB⟩:=n_;(try clear hb);(try clear hkp);(try clear ho0)))
    go_ret2;exact ⟨_,er_,by (with_reducible repeat (first|apply Kd.R_alloc|apply Kd.R_drewN|apply Kd.R_drew));exact Kd.R_mono HO166.out (fun _ hk=>hk.1),pB_ HB.out,by repeat (first|(with_reducible first|exact HK.out|apply Kept.alloc|apply Kept.drewN|apply Kept.drew)|exact HK.out)⟩

/-! ### spec_HeapPush: function 34 -/
def spec_HeapPush.j0 : Nat → Bool → List (S32) → Int → Int → Option ((List (S32)) × Int)
 | 0, _, _, _, _ => none
 | k + 1,x14,x169000,x170000,x170001=>if x14=true then (some (([]:List (S32)),1)) else ((spec_l15At.f k x169000 x170001).bind fun t173=>(if t173 ≥ 0 then (some (([]:List (S32)),2)) else (if (x169000.length:Int)=64 then (some (([]:List (S32)),3)) else ((some (([]:List (S32)):List (S32))).bind fun y174=>(if y174.length + x169000.length < 8796093022208 then ((some (y174 ++ x169000:List (S32))).bind fun y177=>((some (([(⟨x170000,x170001⟩:S32)]:List (S32)):List (S32))).bind fun y180=>(if y177.length + y180.length < 8796093022208 then ((some (y177 ++ y180:List (S32))).bind fun y183=>((spec_l15Up.f k y183 (wrap64 ((y183.length:Int) - 1))).bind fun bt186=>(some (bt186.1,0)))) else (none)))) else (none))))))
def spec_HeapPush.f (k : Nat) (l0_0 : List (S32)) (a1_0 a1_1 : Int) : Option ((List (S32)) × Int) := (spec_HeapOk.f k l0_0).bind fun t171 => (if t171 = true then ((spec_ItemOk.f a1_0 a1_1).bind fun t172 => (spec_HeapPush.j0 k (!t172) l0_0 a1_0 a1_1)) else (spec_HeapPush.j0 k true l0_0 a1_0 a1_1))
def spec_HeapPush.T7 : Bool × List (List Nat × List Nat) := (true, [([], []), ([], []), ([1], [1]), ([0, 2], [0, 2]), ([], []), ([4], [4]), ([3, 5, 3], [3, 5]), ([6, 6, 0, 1, 2, 3, 4, 5, 6], [6])])
def spec_HeapPush.B7 : List Nat := [0, 0, 2, 7, 0, 16, 63, 127]
theorem spec_HeapPush.tab7 : rtab .any (opsOf Try.f34 7) = spec_HeapPush.T7 := by kernel_rfl
theorem spec_HeapPush.bits7 : waitsOk spec_HeapPush.T7.2 spec_HeapPush.B7 = true := by kernel_rfl
set_option maxHeartbeats 8000000 in
set_option maxRecDepth 100000 in
theorem spec_HeapPush.calls (k : Nat) (A0_0 : Option Addr) (c0_0 : Nat) (l0_0 : List (S32)) (a1_0 a1_1 : Int) (r1 : List (S32)) (r2 : Int) (w : World) (hr0_0 : Kd.C k32 w A0_0 l0_0.length l0_0) (hc0_0 : l0_0.length ≤ c0_0) (h : spec_HeapPush.f k l0_0 a1_0 a1_1 = some (r1, r2)) :
  Calls Try.prog 34 #[.agg #[Y A0_0 l0_0.length c0_0],.agg #[I L a1_0,I L a1_1]] w fun e w'=>∃ v0_:Value,e=.returned (.tuple #[.agg #[v0_],I L r2])∧Kd.R k32 32 w' w.heap.size (fun _=>True) v0_ r1∧Below w.heap.size w w':=by
 have hu26 := Try.underlying26
 have hu32 := Try.underlying32
 have HR0_0 := D hr0_0
 have HC0_0 := D hc0_0
 clear hr0_0 hc0_0
 have HB := D (Below.refl w.heap.size w)
 have H:((spec_HeapOk.f k l0_0).bind fun Xd=>(if Xd=true then ((spec_ItemOk.f a1_0 a1_1).bind fun Md=>(spec_HeapPush.j0 k (!Md) l0_0 a1_0 a1_1)) else (spec_HeapPush.j0 k true l0_0 a1_0 a1_1)))=some (r1,r2):=h
 clear h
 have HC3 := D H
 clear H
 go_enter Try.func34, Try.ntmps34
 go_upto_region 1 with (first|((with_reducible refine gate_dst (N:=2) rfl ?_);refine bx_ (N:=2) (cs:=#[Y A0_0 l0_0.length c0_0]) (t:=26) ?_;intro Mb hg w4 hbox hb;have n_:=an_ (below_step (pB_ HB.out) hb)<|an_ (hbox)<|an_ (bg_ hg (pB_ HB.out):w.heap.size≤Mb)<|D (bg_ hg (pB_ HB.out):w.heap.size≤Mb);clear HB;obtain ⟨HB,Ka,Jh,Kh⟩:=n_;clear hb hbox hg)|((with_reducible refine gate_dst (N:=3) rfl ?_);refine bx_ (N:=3) (cs:=#[I L a1_0,I L a1_1]) (t:=32) ?_;intro Ua hg w5 hbox hb;have n_:=an_ (blk_below (pk_ Ka.out) hb)<|an_ (below_step (pB_ HB.out) hb)<|an_ (hbox)<|an_ (bg_ hg (pB_ HB.out):w.heap.size≤Ua)<|an_ (bg_ hg (pB_ HB.out):w.heap.size≤Ua)<|an_ (nl_ hg (pk_ Ka.out):Mb≠Ua)<|D (by rw [hg];exact Nat.ne_of_gt (blk_lt (pk_ Ka.out)):Ua≠Mb);clear Ka HB;obtain ⟨Ka,HB,Ja,Mh,Oh,Xc,Jd⟩:=n_;clear hb hbox hg)|((with_reducible refine gate_dst (N:=4) rfl ?_);refine bx_ (N:=4) (cs:=#[Y none 0 0]) (t:=26) ?_;intro Kb hg w6 hbox hb;have n_:=an_ (blk_below (pk_ Ka.out) hb)<|an_ (blk_below (pk_ Ja.out) hb)<|an_ (below_step (pB_ HB.out) hb)<|an_ (hbox)<|an_ (bg_ hg (pB_ HB.out):w.heap.size≤Kb)<|an_ (bg_ hg (pB_ HB.out):w.heap.size≤Kb)<|an_ (nl_ hg (pk_ Ka.out):Mb≠Kb)<|an_ (ng_ hg (pk_ Ka.out):Kb≠Mb)<|an_ (nl_ hg (pk_ Ja.out):Ua≠Kb)<|D (by rw [hg];exact Nat.ne_of_gt (blk_lt (pk_ Ja.out)):Kb≠Ua);clear Ka Ja HB;obtain ⟨Ka,Ja,HB,Ma,Uh,Xh,Xb,Jc,Oc,Uc⟩:=n_;clear hb hbox hg))
 (try simp only [Act.put, List.setIfInBounds_toArray, List.set_cons_zero, List.set_cons_succ])
 go_cut [14] (fun v14 wc=>∃ (kq:Nat) (Od:Bool),v14=.bool Od∧Aside0 (spec_HeapPush.j0 kq Od l0_0 a1_0 a1_1=some (r1,r2))∧Aside0 (kq≤k)∧Aside0 (wc.heap[Mb]?=some (.cells #[(Y A0_0 l0_0.length c0_0)] 26 (0,0)))∧Aside0 (wc.heap[Ua]?=some (.cells #[I L a1_0,I L a1_1] 32 (0,0)))∧Aside0 (wc.heap[Kb]?=some (.cells #[(Y none 0 0)] 26 (0,0)))∧Aside0 (Below w.heap.size w wc))
 case first =>
  have H := HC3.out; clear HC3; obtain ⟨Xd, A70, H⟩ := bs_.mp H; (try dsimp only at H); have A7 := D A70; clear A70
  by_cases c8 : Xd = true
  ·subst c8
   rw [if_pos rfl] at H;obtain ⟨Md,A90,H⟩:=bs_.mp H;(try dsimp only at H);have A9:=D A90;clear A90;have H':=D H;clear H;(try have:=Xc.out);(try have:=Jd.out);(try have:=Xb.out);(try have:=Jc.out);have Mf:=cells1 Ka.out
   go_wp2_with (first|((with_reducible refine gate_callee (f:=6) rfl ?_);refine goesL_ (some 8) rfl rfl Try.func6 (by kernel_rfl) rfl #[.agg #[Y A0_0 l0_0.length c0_0]] rfl Z9 ?_;(with_reducible refine (spec_HeapOk.calls k _ _ l0_0 true _ ?side1 ?side2 A7.out).mono ?_);(case side1=>exact pC_ (Kd.C_below HR0_0.out HB.out));(case side2=>exact HC0_0.out);rintro e w13 ⟨rfl,hb⟩;refine ⟨_,rfl,?_⟩;have n_:=an_ (blk_below (pk_ Ka.out) hb)<|an_ (blk_below (pk_ Ja.out) hb)<|an_ (blk_below (pk_ Ma.out) hb)<|D (below_step (pB_ HB.out) hb);clear Ka Ja Ma HB;obtain ⟨Ka,Ja,Ma,HB⟩:=n_;(try clear hb);(try have:=Oc.out);(try have:=Uc.out);have Uf:=cells2 Ja.out)|(go_at_call 13;(with_reducible refine (spec_ItemOk.calls a1_0 a1_1 Md _ A9.out).mono ?_);rintro e w16 ⟨rfl,hb⟩;have n_:=an_ (blk_below (pk_ Ka.out) hb)<|an_ (blk_below (pk_ Ja.out) hb)<|an_ (blk_below (pk_ Ma.out) hb)<|D (below_step (pB_ HB.out) hb);clear Ka Ja Ma HB;obtain ⟨Ka,Ja,Ma,HB⟩:=n_;(try clear hb)))
   go_meet
   case rel => exact ⟨_, (!Md), Z23, H', ⟨by first | omega | exact Nat.le_refl _⟩, ⟨pk_ Ka.out⟩, ⟨pk_ Ja.out⟩, ⟨pk_ Ma.out⟩, ⟨pB_ HB.out⟩⟩
  ·replace c8 := Bool.eq_false_iff.mpr c8
   subst c8;rw [if_neg (show ¬ (false=true) by decide)] at H;have H':=D H;clear H;(try have:=Xc.out);(try have:=Jd.out);(try have:=Xb.out);(try have:=Jc.out);have Mg:=cells1 Ka.out
   go_wp2_with (first|((with_reducible refine gate_callee (f:=6) rfl ?_);refine goesL_ (some 8) rfl rfl Try.func6 (by kernel_rfl) rfl #[.agg #[Y A0_0 l0_0.length c0_0]] rfl Z9 ?_;(with_reducible refine (spec_HeapOk.calls k _ _ l0_0 false _ ?side1 ?side2 A7.out).mono ?_);(case side1=>exact pC_ (Kd.C_below HR0_0.out HB.out));(case side2=>exact HC0_0.out);rintro e w20 ⟨rfl,hb⟩;refine ⟨_,rfl,?_⟩;have n_:=an_ (blk_below (pk_ Ka.out) hb)<|an_ (blk_below (pk_ Ja.out) hb)<|an_ (blk_below (pk_ Ma.out) hb)<|D (below_step (pB_ HB.out) hb);clear Ka Ja Ma HB;obtain ⟨Ka,Ja,Ma,HB⟩:=n_;(try clear hb)))
   go_meet
   case rel => exact ⟨_, (true), Z23, H', ⟨by first | omega | exact Nat.le_refl _⟩, ⟨pk_ Ka.out⟩, ⟨pk_ Ja.out⟩, ⟨pk_ Ma.out⟩, ⟨pB_ HB.out⟩⟩
 case rest =>
  clear HC3
  (try clear c1);(try clear p2);(try clear c3);(try clear c6);(try clear c8);(try clear c10);(try clear c11);(try clear c14);(try clear c17);(try clear c18);(try clear Mf);(try clear Uf);(try clear Mg)
  obtain ⟨kq, Od, rfl, HA, HJ2, Ka, Ja, Ma, HB⟩ := hcut
  cases kq with
  | zero => exact absurd HA.out (by simp [spec_HeapPush.j0])
  | succ kj2 =>
   have H := HA.out; clear HA; simp only [spec_HeapPush.j0] at H
   by_cases c21 : Od = true
   ·subst c21
    rw [if_pos rfl] at H;simp only [Option.some.injEq,Prod.mk.injEq] at H;obtain ⟨rfl,rfl⟩:=H;(try have:=Jc.out);(try have:=Xb.out);(try have:=Uc.out);(try have:=Oc.out);have Ji:=cells1 Ma.out
    go_wp2
    refine bodyPost_ret (results_ct rfl _ _ Kb 26 #[Y none 0 0] (0,0) _ rfl Z12 Try.underlying26 rfl (by kernel_rfl)) rfl ?_;exact ⟨_,er_,by first|exact Kd.R_nil _ _ _ _ _|exact Kd.N_nil _ _ _ _ _|exact Kd.V_nil _ _ _ _ _|exact Kd.Q_nil _ _ _ _ _|exact Kd.S_nil _ _ _ _ _,pB_ HB.out⟩
   ·replace c21 := Bool.eq_false_iff.mpr c21
    subst c21;rw [if_neg (show ¬ (false=true) by decide)] at H;obtain ⟨Ud,A250,H⟩:=bs_.mp H;(try dsimp only at H);have A25:=D A250;clear A250;have HU26:=D H;clear H;(try have:=Xc.out);(try have:=Jd.out);(try have:=Xb.out);(try have:=Jc.out);have Mi:=cells1 Ka.out;(try have:=Oc.out);(try have:=Uc.out);have Ui:=cells2 Ja.out
    go_upto_if 21 with (first|((with_reducible refine gate_callee (f:=14) rfl ?_);refine goesL_ (some 20) rfl rfl Try.func14 (by kernel_rfl) rfl #[Y A0_0 l0_0.length c0_0,I L a1_1] rfl Z9 ?_;(with_reducible refine (spec_l15At.calls kj2 _ _ l0_0 a1_1 Ud _ ?side1 ?side2 A25.out).mono ?_);(case side1=>exact pC_ (Kd.C_below HR0_0.out HB.out));(case side2=>exact HC0_0.out);rintro e w' ⟨rfl,⟨nd,rfl⟩⟩;refine ⟨_,rfl,?_⟩))
    have H := HU26.out; clear HU26
    by_cases c32 : Ud ≥ 0
    ·rw [if_pos c32] at H
     have c32b0:decide (0≤Ud)=true:=decide_eq_true c32;clear c32;refine rw_ c32b0 ?_;simp only [Option.some.injEq,Prod.mk.injEq] at H;obtain ⟨rfl,rfl⟩:=H;(try have:=Jc.out);(try have:=Xb.out);(try have:=Uc.out);(try have:=Oc.out);have Mj:=cells1 Ma.out
     go_wp2
     refine bodyPost_ret (results_ct rfl _ _ Kb 26 #[Y none 0 0] (0,0) _ rfl Z12 Try.underlying26 rfl (by kernel_rfl)) rfl ?_;exact ⟨_,er_,by first|exact Kd.R_nil _ _ _ _ _|exact Kd.N_nil _ _ _ _ _|exact Kd.V_nil _ _ _ _ _|exact Kd.Q_nil _ _ _ _ _|exact Kd.S_nil _ _ _ _ _,pB_ HB.out⟩
    ·rw [if_neg c32] at H
     have c32b0:decide (0≤Ud)=false:=decide_eq_false c32;clear c32;refine rw_ c32b0 ?_
     by_cases c36 : (l0_0.length : Int) = 64
     ·rw [if_pos c36] at H
      have c36b0:((l0_0.length:Int) == 64)=true:=beq_iff_eq.mpr c36;have c36b1:((l0_0.length:Int) != 64)=false:=bne_eq_false_iff_eq.mpr c36;clear c36;simp only [Option.some.injEq,Prod.mk.injEq] at H;obtain ⟨rfl,rfl⟩:=H;(try have:=Xc.out);(try have:=Jd.out);(try have:=Xb.out);(try have:=Jc.out);have Uj:=cells1 Ka.out;(try have:=Uc.out);(try have:=Oc.out);have Jk:=cells1 Ma.out
      go_wp2
      refine bodyPost_ret (results_ct rfl _ _ Kb 26 #[Y none 0 0] (0,0) _ rfl Z12 Try.underlying26 rfl (by kernel_rfl)) rfl ?_;exact ⟨_,er_,by first|exact Kd.R_nil _ _ _ _ _|exact Kd.N_nil _ _ _ _ _|exact Kd.V_nil _ _ _ _ _|exact Kd.Q_nil _ _ _ _ _|exact Kd.S_nil _ _ _ _ _,pB_ HB.out⟩
     ·rw [if_neg c36] at H
      have c36b0:((l0_0.length:Int) == 64)=false:=beq_eq_false_iff_ne.mpr c36;have c36b1:((l0_0.length:Int) != 64)=true:=bne_iff_ne.mpr c36;obtain ⟨y174,hy174⟩:∃ y_:List (S32),y_=(([]:List (S32))):=⟨_,rfl⟩
      replace H:(if y174.length + l0_0.length < 8796093022208 then ((some (y174 ++ l0_0:List (S32))).bind fun y177=>((some (([(⟨a1_0,a1_1⟩:S32)]:List (S32)):List (S32))).bind fun y180=>(if y177.length + y180.length < 8796093022208 then ((some (y177 ++ y180:List (S32))).bind fun y183=>((spec_l15Up.f kj2 y183 (wrap64 ((y183.length:Int) - 1))).bind fun bt186=>(some (bt186.1,0)))) else (none)))) else (none))=some (r1,r2):=by first|(rw [hy174];with_reducible exact H)|(have H2_:=(Option.bind_some _ _).symm.trans H;rw [hy174];with_reducible exact H2_)|(have H2_:=(Option.bind_some _ _).symm.trans H;with_reducible exact H2_)|with_reducible exact H|(rw [hy174];exact H)|exact H
      have Ny174 := D hy174; clear hy174
      by_cases c42 : y174.length + l0_0.length < 8796093022208
      ·rw [if_pos c42] at H
       have LMc42 := D c42; clear c42; obtain ⟨y177, hy177⟩ : ∃ y_ : List (S32), y_ = (y174 ++ l0_0) := ⟨_, rfl⟩
       replace H:((some (([(⟨a1_0,a1_1⟩:S32)]:List (S32)):List (S32))).bind fun y180=>(if y177.length + y180.length < 8796093022208 then ((some (y177 ++ y180:List (S32))).bind fun y183=>((spec_l15Up.f kj2 y183 (wrap64 ((y183.length:Int) - 1))).bind fun bt186=>(some (bt186.1,0)))) else (none)))=some (r1,r2):=by first|(rw [hy177];with_reducible exact H)|(have H2_:=(Option.bind_some _ _).symm.trans H;rw [hy177];with_reducible exact H2_)|(have H2_:=(Option.bind_some _ _).symm.trans H;with_reducible exact H2_)|with_reducible exact H|(rw [hy177];exact H)|exact H
       have Ny177 := D hy177; clear hy177; obtain ⟨y180, hy180⟩ : ∃ y_ : List (S32), y_ = (([(⟨a1_0, a1_1⟩ : S32)] : List (S32))) := ⟨_, rfl⟩
       replace H:(if y177.length + y180.length < 8796093022208 then ((some (y177 ++ y180:List (S32))).bind fun y183=>((spec_l15Up.f kj2 y183 (wrap64 ((y183.length:Int) - 1))).bind fun bt186=>(some (bt186.1,0)))) else (none))=some (r1,r2):=by first|(rw [hy180];with_reducible exact H)|(have H2_:=(Option.bind_some _ _).symm.trans H;rw [hy180];with_reducible exact H2_)|(have H2_:=(Option.bind_some _ _).symm.trans H;with_reducible exact H2_)|with_reducible exact H|(rw [hy180];exact H)|exact H
       have Ny180 := D hy180; clear hy180
       by_cases c43 : y177.length + y180.length < 8796093022208
       ·rw [if_pos c43] at H
        have LMc43 := D c43; clear c43; obtain ⟨y183, hy183⟩ : ∃ y_ : List (S32), y_ = (y177 ++ y180) := ⟨_, rfl⟩
        replace H:((spec_l15Up.f kj2 y183 (wrap64 ((y183.length:Int) - 1))).bind fun bt186=>(some (bt186.1,0)))=some (r1,r2):=by first|(rw [hy183];with_reducible exact H)|(have H2_:=(Option.bind_some _ _).symm.trans H;rw [hy183];with_reducible exact H2_)|(have H2_:=(Option.bind_some _ _).symm.trans H;with_reducible exact H2_)|with_reducible exact H|(rw [hy183];exact H)|exact H
        have Ny183:=D hy183;clear hy183;obtain ⟨⟨Je,Ug⟩,A440,H⟩:=bs_.mp H;(try dsimp only at H);have A44:=D A440;clear A440;simp only [Option.some.injEq,Prod.mk.injEq] at H;obtain ⟨rfl,rfl⟩:=H;(try have:=Xc.out);(try have:=Jd.out);(try have:=Xb.out);(try have:=Jc.out);have Mk:=cells1 Ka.out
        try go_wp2
        (try (rw [drewN_self wc];generalize hq_:World.drewN wc _=wc;have n0_:Aside0 (wc.heap[Mb]?=some (.cells #[Y A0_0 l0_0.length c0_0] 26 (0,0))):=⟨by rw [← hq_];exact (pk_ Ka.out)⟩;have n1_:Aside0 (wc.heap[Ua]?=some (.cells #[I L a1_0,I L a1_1] 32 (0,0))):=⟨by rw [← hq_];exact (pk_ Ja.out)⟩;have n2_:Aside0 (wc.heap[Kb]?=some (.cells #[Y none 0 0] 26 (0,0))):=⟨by rw [← hq_];exact (pk_ Ma.out)⟩;have n3_:Aside0 (Below w.heap.size w wc):=⟨by rw [← hq_];exact (pB_ HB.out)⟩;clear Ka Ja Ma HB hq_;have Ka:=n0_;have Ja:=n1_;have Ma:=n2_;have HB:=n3_;clear n0_ n1_ n2_ n3_))
        have n_ := an_ (blk_drew Ka.out) <| an_ (blk_drew Ja.out) <| an_ (blk_drew Ma.out) <| D (below_drew1 HB.out)
        clear Ka Ja Ma HB;obtain ⟨Ka,Ja,Ma,HB⟩:=n_;refine start_ (n:=8) (S:=fun w'=>w'.cell? ⟨Mb,0,none⟩=some (Y A0_0 l0_0.length c0_0)∧w'.cell? ⟨Ua,0,none⟩=some (I L a1_0)∧w'.cell? ⟨Ua,1,none⟩=some (I L a1_1)) (ds:=[]) (bz 8 0) (by kernel_rfl) rfl (by kernel_rfl) ⟨bc_ Ka.out 0,be2_ Ja.out⟩ (fun hHeld=>?_);refine with_tabW spec_HeapPush.tab7 spec_HeapPush.bits7 (fun HT_ HW_=>?_);generalize wc.drew=w48 at Ka Ja Ma HB hHeld ⊢;refine pb_ 1 ?_;refine tb_ 2 rfl rfl hHeld Z21 ?_;refine tb_ 4 rfl rfl hHeld Z21 ?_;refine join_ (σ:=Value × Value × Value) 2 (bz 8 63) (fun s_=>[(28,s_.1),(31,s_.2.1),(33,s_.2.2)]) (fun s_ w'=>(w'.cell? ⟨Mb,0,none⟩=some (Y A0_0 l0_0.length c0_0)∧w'.cell? ⟨Ua,0,none⟩=some (I L a1_0)∧w'.cell? ⟨Ua,1,none⟩=some (I L a1_1))∧(Kd.R k32 32 w' w.heap.size (fun k_=>some k_≠(s_.2.2:Value).ownBlock∧k_≠Ua) s_.2.1 y177)∧(Kd.R k32 32 w' w.heap.size (fun k_=>some k_≠(s_.2.1:Value).ownBlock∧k_≠Ua) s_.2.2 y180)∧(w'.heap[Mb]?=some (.cells #[Y A0_0 l0_0.length c0_0] 26 (0,0)))∧(w'.heap[Ua]?=some (.cells #[I L a1_0,I L a1_1] 32 (0,0)))∧(w'.heap[Kb]?=some (.cells #[Y none 0 0] 26 (0,0)))∧(Below w.heap.size w w')) ?_ ?_;rotate_left
        ·intro hCont
         refine two_ (i := 0) (j := 5) (Ni := some 28) (Nj := some 33) (bz 8 23) (bz 8 54) rfl rfl rfl rfl (two_of HT_.out (by kernel_rfl)) (by decide) (by decide) (fun K hK => ?_) (fun K hK => ?_)
         ·skip
          refine Kd.R_lit_step k32 _ 32 ?hg (N:=28) ?hd (xs:=([]:List (S32))) (inner:=[]) (ok:=fun _=>True) (okp:=fun _=>True) ?hr ?hp (fun _ hk=>hk) trivial (Below.refl _ _) (Nat.le_refl _) (by simp) ?_;(case hd=>rfl);(case hg=>rfl);(case hr=>first|(go_simp;done)|(go_simp;rfl));(case hp=>exact (Reps.none _ _));intro Ob w49 ho50 hb hg_ hnew_;clear hg_ hnew_;(first|rw [← Ny174.out] at ho50|(simp only [Int.reduceToNat] at ho50;rw [← Ny174.out] at ho50))
          have n_:=an_ (Kd.R_lower (Kd.R_newB ho50 (pk_ Ja.out)) (below_size (pB_ HB.out)))<|an_ (blk_below (pk_ Ka.out) hb)<|an_ (blk_below (pk_ Ja.out) hb)<|an_ (blk_below (pk_ Ma.out) hb)<|D (below_step (pB_ HB.out) hb)
          clear Ka Ja Ma HB;obtain ⟨Xa,Ka,Ja,Ma,HB⟩:=n_;clear hb ho50;refine hK.out _ _ ⟨bc_ Ka.out 0,be2_ Ja.out⟩ (fun hHeld=>?_);clear hK K;refine nx_ (N:=some 28) ?_;refine two_ (i:=3) (j:=5) (Ni:=some 31) (Nj:=some 33) (bz 8 31) (bz 8 55) rfl rfl rfl rfl (two_of HT_.out (by kernel_rfl)) (by decide) (by decide) (fun K hK=>?_) (fun K hK=>?_)
          ·skip
           refine Kd.R_append_rows_step k32 (w0:=w) w.heap.size (by rfl) (.tmp 28) (.tmp 30) 24 32 (.agg #[(I L 0),(I L 0)]) 16 rfl Try.underlying24 info32 rfl (by decide) (by omega) Ob y174 l0_0 _ _ _ (fun k_=>k_≠Ua) (fun _=>False) rfl rfl ?aO ?aR (fun _ _ h=>h) (fun _ h=>h.elim) ?aF ?aB ?aS ?aL ?_;(case aR=>exact pC_ (Kd.C_below HR0_0.out HB.out));(case aB=>exact (pB_ HB.out));(case aF=>exact (fun k_ hk=>Kd.freshB (pk_ Ja.out) k_ hk));(case aO=>exact (pR_ (Kd.R_mono Xa.out (fun _ hk=>hk.2))));(case aS=>exact (below_size (pB_ HB.out)));(case aL=>have:=LMc42.out;omega);intro Kc w51 ho hb hg hat;rw [← Ny177.out] at ho
           have n_:=an_ (blk_grown (pk_ Ka.out) hg (Kd.R_ne Xa.out Ka.out (by decide)))<|an_ (blk_grown (pk_ Ja.out) hg (Kd.R_away Xa.out (fun _ hk=>hk.2)))<|an_ (blk_grown (pk_ Ma.out) hg (Kd.R_ne Xa.out Ma.out (by decide)))<|an_ (hb)<|D (ho)
           clear Ka Ja Ma HB Xa;obtain ⟨Ka,Ja,Ma,HB,Jb⟩:=n_;clear ho hb hg hat;refine hK.out _ _ ⟨bc_ Ka.out 0,be2_ Ja.out⟩ (fun hHeld=>?_);clear hK K;refine nx_ (N:=some 31) ?_;refine oa_ 5 33 8 63 HT_ (fun K hK=>?_);refine Kd.R_lit_step k32 _ 32 ?hg (N:=33) ?hd (xs:=([(⟨a1_0,a1_1⟩:S32)]:List (S32))) (inner:=[I L a1_0,I L a1_1]) (ok:=fun _=>True) (okp:=fun _=>True) ?hr ?hp (fun _ hk=>hk) trivial (Below.refl _ _) (Nat.le_refl _) (by simp) ?_;(case hd=>rfl);(case hg=>rfl);(case hr=>first|(go_simp;done)|(go_simp;rfl));(case hp=>exact (Reps.c2 (show Kd.M k32 _ _ _ (⟨a1_0,a1_1⟩:S32) [I L a1_0,I L a1_1] from (k32_mkM _ _ _ (⟨a1_0,a1_1⟩:S32) )) (Reps.none _ _)));intro Ub w52 ho53 hb hg_ hnew_;clear hg_ hnew_;(first|rw [← Ny180.out] at ho53|(simp only [Int.reduceToNat] at ho53;rw [← Ny180.out] at ho53))
           have n_:=an_ (Kd.R_elder' (pR_ Jb.out) (Kd.R_base ho53) hb)<|an_ (Kd.R_lower (Kd.R_newB (nw_ ho53 (pR_ Jb.out)) (pk_ Ja.out)) (below_size (pB_ HB.out)))<|an_ (blk_below (pk_ Ka.out) hb)<|an_ (blk_below (pk_ Ja.out) hb)<|an_ (blk_below (pk_ Ma.out) hb)<|D (below_step (pB_ HB.out) hb)
           clear Jb Ka Ja Ma HB;obtain ⟨Jb,Oa,Ka,Ja,Ma,HB⟩:=n_;clear hb ho53;refine hK.out _ _ ⟨bc_ Ka.out 0,be2_ Ja.out⟩ (fun hHeld=>?_);clear hK K;refine nx_ (N:=some 33) ?_;exact norm_ Z15 (hCont (Ob,Kc,Ub) _ ⟨hHeld,(pR_ (Kd.R_mono Jb.out (fun _ hk=>by first|exact ⟨hk.2,hk.1⟩|exact hk.1|exact hk.2))),(pR_ (Kd.R_mono Oa.out (fun _ hk=>⟨hk.1.2,hk.2⟩))),(pk_ Ka.out),(pk_ Ja.out),(pk_ Ma.out),(pB_ HB.out)⟩)
          ·skip
           refine Kd.R_lit_step k32 _ 32 ?hg (N:=33) ?hd (xs:=([(⟨a1_0,a1_1⟩:S32)]:List (S32))) (inner:=[I L a1_0,I L a1_1]) (ok:=fun _=>True) (okp:=fun _=>True) ?hr ?hp (fun _ hk=>hk) trivial (Below.refl _ _) (Nat.le_refl _) (by simp) ?_;(case hd=>rfl);(case hg=>rfl);(case hr=>first|(go_simp;done)|(go_simp;rfl));(case hp=>exact (Reps.c2 (show Kd.M k32 _ _ _ (⟨a1_0,a1_1⟩:S32) [I L a1_0,I L a1_1] from (k32_mkM _ _ _ (⟨a1_0,a1_1⟩:S32) )) (Reps.none _ _)));intro Ub w51 ho52 hb hg_ hnew_;clear hg_ hnew_;(first|rw [← Ny180.out] at ho52|(simp only [Int.reduceToNat] at ho52;rw [← Ny180.out] at ho52))
           have n_:=an_ (Kd.R_elder' (pR_ Xa.out) (Kd.R_base ho52) hb)<|an_ (Kd.R_lower (Kd.R_newB (nw_ ho52 (pR_ Xa.out)) (pk_ Ja.out)) (below_size (pB_ HB.out)))<|an_ (blk_below (pk_ Ka.out) hb)<|an_ (blk_below (pk_ Ja.out) hb)<|an_ (blk_below (pk_ Ma.out) hb)<|D (below_step (pB_ HB.out) hb)
           clear Xa Ka Ja Ma HB;obtain ⟨Xa,Oa,Ka,Ja,Ma,HB⟩:=n_;clear hb ho52;refine hK.out _ _ ⟨bc_ Ka.out 0,be2_ Ja.out⟩ (fun hHeld=>?_);clear hK K;refine nx_ (N:=some 33) ?_;refine oa_ 3 31 8 63 HT_ (fun K hK=>?_);refine Kd.R_append_rows_step k32 (w0:=w) w.heap.size (by rfl) (.tmp 28) (.tmp 30) 24 32 (.agg #[(I L 0),(I L 0)]) 16 rfl Try.underlying24 info32 rfl (by decide) (by omega) Ob y174 l0_0 _ _ _ (fun k_=>some k_≠(Ub:Value).ownBlock∧k_≠Ua) (fun _=>False) rfl rfl ?aO ?aR (fun _ _ h=>h) (fun _ h=>h.elim) ?aF ?aB ?aS ?aL ?_;(case aR=>exact pC_ (Kd.C_below HR0_0.out HB.out));(case aB=>exact (pB_ HB.out));(case aF=>exact (fun k_ hk=>⟨Kd.fresh' (Kd.R_lt (pR_ Oa.out)) k_ hk,Kd.freshB (pk_ Ja.out) k_ hk⟩));(case aO=>exact (pR_ (Kd.R_mono Xa.out (fun _ hk=>⟨hk.2,hk.1.2⟩))));(case aS=>exact (below_size (pB_ HB.out)));(case aL=>have:=LMc42.out;omega);intro Kc w53 ho hb hg hat;rw [← Ny177.out] at ho
           have n_:=an_ (blk_grown (pk_ Ka.out) hg (Kd.R_ne Xa.out Ka.out (by decide)))<|an_ (blk_grown (pk_ Ja.out) hg (Kd.R_away Xa.out (fun _ hk=>hk.1.2)))<|an_ (blk_grown (pk_ Ma.out) hg (Kd.R_ne Xa.out Ma.out (by decide)))<|an_ (Kd.R_after (ok:=(fun k_=>k_≠Ua)) (pR_ (Kd.R_mono Oa.out (fun _ hk=>⟨hk.2,hk.1.2⟩))) hg hat)<|an_ (hb)<|D (ho)
           clear Ka Ja Ma Oa HB Xa;obtain ⟨Ka,Ja,Ma,Oa,HB,Jb⟩:=n_;clear ho hb hg hat;refine hK.out _ _ ⟨bc_ Ka.out 0,be2_ Ja.out⟩ (fun hHeld=>?_);clear hK K;refine nx_ (N:=some 31) ?_;exact norm_ Z15 (hCont (Ob,Kc,Ub) _ ⟨hHeld,(pR_ Jb.out),(pR_ (Kd.R_mono Oa.out (fun _ hk=>by first|exact ⟨hk.2,hk.1⟩|exact hk.1|exact hk.2))),(pk_ Ka.out),(pk_ Ja.out),(pk_ Ma.out),(pB_ HB.out)⟩)
         ·skip
          refine Kd.R_lit_step k32 _ 32 ?hg (N:=33) ?hd (xs:=([(⟨a1_0,a1_1⟩:S32)]:List (S32))) (inner:=[I L a1_0,I L a1_1]) (ok:=fun _=>True) (okp:=fun _=>True) ?hr ?hp (fun _ hk=>hk) trivial (Below.refl _ _) (Nat.le_refl _) (by simp) ?_;(case hd=>rfl);(case hg=>rfl);(case hr=>first|(go_simp;done)|(go_simp;rfl));(case hp=>exact (Reps.c2 (show Kd.M k32 _ _ _ (⟨a1_0,a1_1⟩:S32) [I L a1_0,I L a1_1] from (k32_mkM _ _ _ (⟨a1_0,a1_1⟩:S32) )) (Reps.none _ _)));intro Ub w49 ho50 hb hg_ hnew_;clear hg_ hnew_;(first|rw [← Ny180.out] at ho50|(simp only [Int.reduceToNat] at ho50;rw [← Ny180.out] at ho50))
          have n_:=an_ (Kd.R_lower (Kd.R_newB ho50 (pk_ Ja.out)) (below_size (pB_ HB.out)))<|an_ (blk_below (pk_ Ka.out) hb)<|an_ (blk_below (pk_ Ja.out) hb)<|an_ (blk_below (pk_ Ma.out) hb)<|D (below_step (pB_ HB.out) hb)
          clear Ka Ja Ma HB;obtain ⟨Oa,Ka,Ja,Ma,HB⟩:=n_;clear hb ho50;refine hK.out _ _ ⟨bc_ Ka.out 0,be2_ Ja.out⟩ (fun hHeld=>?_);clear hK K;refine nx_ (N:=some 33) ?_;refine oa_ 0 28 8 55 HT_ (fun K hK=>?_);refine Kd.R_lit_step k32 _ 32 ?hg (N:=28) ?hd (xs:=([]:List (S32))) (inner:=[]) (ok:=fun _=>True) (okp:=fun _=>True) ?hr ?hp (fun _ hk=>hk) trivial (Below.refl _ _) (Nat.le_refl _) (by simp) ?_;(case hd=>rfl);(case hg=>rfl);(case hr=>first|(go_simp;done)|(go_simp;rfl));(case hp=>exact (Reps.none _ _));intro Ob w51 ho52 hb hg_ hnew_;clear hg_ hnew_;(first|rw [← Ny174.out] at ho52|(simp only [Int.reduceToNat] at ho52;rw [← Ny174.out] at ho52))
          have n_:=an_ (Kd.R_elder' (pR_ Oa.out) (Kd.R_base ho52) hb)<|an_ (Kd.R_lower (Kd.R_newB (nw_ ho52 (pR_ Oa.out)) (pk_ Ja.out)) (below_size (pB_ HB.out)))<|an_ (blk_below (pk_ Ka.out) hb)<|an_ (blk_below (pk_ Ja.out) hb)<|an_ (blk_below (pk_ Ma.out) hb)<|D (below_step (pB_ HB.out) hb)
          clear Oa Ka Ja Ma HB;obtain ⟨Oa,Xa,Ka,Ja,Ma,HB⟩:=n_;clear hb ho52;refine hK.out _ _ ⟨bc_ Ka.out 0,be2_ Ja.out⟩ (fun hHeld=>?_);clear hK K;refine nx_ (N:=some 28) ?_;refine oa_ 3 31 8 63 HT_ (fun K hK=>?_);refine Kd.R_append_rows_step k32 (w0:=w) w.heap.size (by rfl) (.tmp 28) (.tmp 30) 24 32 (.agg #[(I L 0),(I L 0)]) 16 rfl Try.underlying24 info32 rfl (by decide) (by omega) Ob y174 l0_0 _ _ _ (fun k_=>some k_≠(Ub:Value).ownBlock∧k_≠Ua) (fun _=>False) rfl rfl ?aO ?aR (fun _ _ h=>h) (fun _ h=>h.elim) ?aF ?aB ?aS ?aL ?_;(case aR=>exact pC_ (Kd.C_below HR0_0.out HB.out));(case aB=>exact (pB_ HB.out));(case aF=>exact (fun k_ hk=>⟨Kd.fresh' (Kd.R_lt (pR_ Oa.out)) k_ hk,Kd.freshB (pk_ Ja.out) k_ hk⟩));(case aO=>exact (pR_ (Kd.R_mono Xa.out (fun _ hk=>⟨hk.1.2,hk.2⟩))));(case aS=>exact (below_size (pB_ HB.out)));(case aL=>have:=LMc42.out;omega);intro Kc w53 ho hb hg hat;rw [← Ny177.out] at ho
          have n_:=an_ (blk_grown (pk_ Ka.out) hg (Kd.R_ne Xa.out Ka.out (by decide)))<|an_ (blk_grown (pk_ Ja.out) hg (Kd.R_away Xa.out (fun _ hk=>hk.2)))<|an_ (blk_grown (pk_ Ma.out) hg (Kd.R_ne Xa.out Ma.out (by decide)))<|an_ (Kd.R_after (ok:=(fun k_=>k_≠Ua)) (pR_ (Kd.R_mono Oa.out (fun _ hk=>⟨hk.1.2,hk.2⟩))) hg hat)<|an_ (hb)<|D (ho)
          clear Ka Ja Ma Oa HB Xa;obtain ⟨Ka,Ja,Ma,Oa,HB,Jb⟩:=n_;clear ho hb hg hat;refine hK.out _ _ ⟨bc_ Ka.out 0,be2_ Ja.out⟩ (fun hHeld=>?_);clear hK K;refine nx_ (N:=some 31) ?_;exact norm_ Z15 (hCont (Ob,Kc,Ub) _ ⟨hHeld,(pR_ Jb.out),(pR_ (Kd.R_mono Oa.out (fun _ hk=>by first|exact ⟨hk.2,hk.1⟩|exact hk.1|exact hk.2))),(pk_ Ka.out),(pk_ Ja.out),(pk_ Ma.out),(pB_ HB.out)⟩)
        rintro ⟨Ob, Kc, Ub⟩ w54 ⟨hS_, h0_, h1_, h2_, h3_, h4_, h5_⟩
        have n_ := an_ (h0_) <| an_ (h1_) <| an_ (h2_) <| an_ (h3_) <| an_ (h4_) <| D (h5_)
        clear Ka Ja Ma HB h0_ h1_ h2_ h3_ h4_ h5_;obtain ⟨Jb,Oa,Ka,Ja,Ma,HB⟩:=n_;have hHeld:w54.cell? ⟨Mb,0,none⟩=some (Y A0_0 l0_0.length c0_0)∧w54.cell? ⟨Ua,0,none⟩=some (I L a1_0)∧w54.cell? ⟨Ua,1,none⟩=some (I L a1_1):=hS_;obtain ⟨Oe,Ue,eo56⟩:=Kd.R_slice Oa.out;(first|subst eo56|obtain ⟨rfl,rfl⟩:=sl_inj eo56);refine norm_ (a':=?_) ?_ ?_;rotate_left
        ·simp only [putAll, Act.put, List.setIfInBounds_toArray, List.set_cons_zero, List.set_cons_succ]
         rfl
        refine oa_ 6 34 8 127 HT_ (fun K hK=>?_);refine Kd.R_append_rows_step k32 (w0:=w) w.heap.size (by rfl) (.tmp 31) (.tmp 33) 24 32 (.agg #[(I L 0),(I L 0)]) 16 rfl Try.underlying24 info32 rfl (by decide) (by omega) Kc y177 y180 _ _ _ (fun k_=>some k_≠(Y Oe y180.length Ue:Value).ownBlock∧k_≠Ua) (fun _=>False) rfl rfl ?aO ?aR (fun _ _ h=>h) (fun _ h=>h.elim) ?aF ?aB ?aS ?aL ?_;(case aR=>exact pC_ ((Kd.R_reads' Oa.out).2.2));(case aB=>exact (pB_ HB.out));(case aF=>exact (fun k_ hk=>⟨Kd.fresh' (Kd.R_lt (pR_ Oa.out)) k_ hk,Kd.freshB (pk_ Ja.out) k_ hk⟩));(case aO=>exact (pR_ Jb.out));(case aS=>exact (below_size (pB_ HB.out)));(case aL=>have:=LMc43.out;omega);intro Uk w55 ho hb hg hat;rw [← Ny183.out] at ho
        have n_:=an_ (blk_grown (pk_ Ka.out) hg (Kd.R_ne Jb.out Ka.out (by decide)))<|an_ (blk_grown (pk_ Ja.out) hg (Kd.R_away Jb.out (fun _ hk=>hk.2)))<|an_ (blk_grown (pk_ Ma.out) hg (Kd.R_ne Jb.out Ma.out (by decide)))<|an_ (Kd.R_after (ok:=(fun k_=>k_≠Ua)) (pR_ (Kd.R_mono Oa.out (fun _ hk=>by first|exact ⟨hk.2,hk.1⟩|exact hk.1|exact hk.2))) hg hat)<|an_ (hb)<|D (ho)
        clear Ka Ja Ma Oa HB Jb;obtain ⟨Ka,Ja,Ma,Oa,HB,Mc⟩:=n_;clear ho hb hg hat;refine hK.out _ _ ⟨bc_ Ka.out 0,be2_ Ja.out⟩ (fun hHeld=>?_);clear hK K;refine nx_ (N:=some 34) ?_;refine pb_ 7 ?_;refine done_ (done_of HT_.out (by kernel_rfl)) ?_;obtain ⟨Ke,Me,eo57⟩:=Kd.R_slice Mc.out;subst eo57
        try go_wp2_with (first|((with_reducible refine gate_callee (f:=49) rfl ?_);refine goesL_ (some 40) rfl rfl Try.func49 (by kernel_rfl) rfl #[Y Ke y183.length Me,I L (wrap64 ((y183.length:Int) - 1))] rfl Z9 ?_;(with_reducible refine (spec_l15Up.calls kj2 (fun k_=>some k_=(Y Ke y183.length Me:Value).ownBlock) (Y Ke y183.length Me) y183 (wrap64 ((y183.length:Int) - 1)) Je Ug w _ ?side1 ?side2 A44.out).mono ?_);(case side1=>exact pB_ HB.out);(case side2=>exact Kd.R_tight rfl Mc.out);rintro e w58 ⟨Xg,rfl,ho0,hb,hkp⟩;refine ⟨_,rfl,?_⟩;have n_:=an_ (blk_kept (pk_ Ka.out) hkp (fun hs_=>(fun e_=>(Kd.R_ne Mc.out Ka.out (by decide)) e_) hs_))<|an_ (blk_kept (pk_ Ja.out) hkp (fun hs_=>(fun e_=>(Kd.R_away Mc.out (fun _ hk=>hk.2)) e_) hs_))<|an_ (blk_kept (pk_ Ma.out) hkp (fun hs_=>(fun e_=>(Kd.R_ne Mc.out Ma.out (by decide)) e_) hs_))<|an_ (Kd.R_mono (ok':=fun k_=>k_≠Ua∧some k_≠(Xg:Value).ownBlock) (Kd.R_keptB (Oa.out) hkp (fun k_ hk_ hs_=>(hk_.2) hs_)) (fun k_ hk_=>⟨hk_.1.1,fun e_=>Or.elim (ho0.1 k_ e_.symm) (fun hs_=>hk_.2.1 hs_) (fun hn_=>Nat.not_le.2 hk_.2.2 hn_)⟩))<|an_ (Kd.R_mono (ok':=fun k_=>some k_≠(Y Oe y180.length Ue:Value).ownBlock∧k_≠Ua) ho0 (fun k_ hk_=>⟨Or.elim hk_ (fun hs_=>fun e_=>(((Oa.out).1 k_ e_.symm).2) hs_) (fun hn_=>(Kd.fresh' (Kd.R_lt (pR_ Oa.out)) k_ hn_)),Or.elim hk_ (fun hs_=>fun e_=>(Kd.R_away Mc.out (fun _ hk=>hk.2)) (by rw [← e_];exact hs_)) (fun hn_=>(Kd.freshB (pk_ Ja.out) k_ hn_))⟩))<|D (hb);clear Ka Ja Ma Oa HB Mc;obtain ⟨Ka,Ja,Ma,Oa,Xe,HB⟩:=n_;(try clear hb);(try clear hkp);(try clear ho0);obtain ⟨Jf,Kf,eo59⟩:=Kd.R_slice Xe.out;subst eo59;(try have:=Uc.out);(try have:=Oc.out);have Xk:=cells1 Ma.out))
        refine bodyPost_ret (results_ct rfl _ _ Kb 26 #[Y Jf Je.length Kf] (0,0) _ rfl Z12 Try.underlying26 rfl (by kernel_rfl)) rfl ?_;exact ⟨_,er_,by (with_reducible repeat (first|apply Kd.R_alloc|apply Kd.R_drewN|apply Kd.R_drew));exact Kd.R_mono (fr_ (Kd.R_types Xe.out Ma.out (by decide)) 0 (Y Jf Je.length Kf)) (fun _ hk=>trivial),pB_ HB.out⟩
       ·rw [if_neg c43] at H
        exact absurd H (by simp)
      ·rw [if_neg c42] at H
       exact absurd H (by simp)

end Go.Proofs.Ytcindcakncngnaa.PFnHeapSorts
