-- by a program of this session's, over the kit's words
import Derived.Test.YtpkdkhhknmlpjaaPZFnTakenAdds
import Derived.Test.YtpkdkhhknmlpjaaPFnTakenAddsx0
import Derived.Test.YtpkdkhhknmlpjaaPFnTakenAddsx2
import Derived.Test.YtpkdkhhknmlpjaaPFnTakenAddsx8
namespace Go.Proofs.Ytpkdkhhknmlpjaa.PFnTakenAdds
open Go.RowKit Go.Proofs.YtpkdkhhknmlpjaaW.PrintWords Go.Proofs.YtpkdkhhknmlpjaaW.PrintLast Go.Proofs.YtpkdkhhknmlpjaaW.PrintMore Go.Proofs.YtpkdkhhknmlpjaaV Go.Proofs.Ytpkdkhhknmlpjaa.ZFnTakenAdds
open Go.Value renaming int → I, slice → Y
open Go.IntKind renaming i64 → L
open Aside0 renaming mk → D
open Option renaming bind_eq_some_iff → bs_
attribute [local go_sem] max2_int min2_int max_two min_two max_three min_three max_four min_four   -- for this text's walks alone
set_option linter.unusedVariables false
set_option linter.unusedSimpArgs false

/-! ### spec_FairNew: function 33 -/
def spec_FairNew.f (a0 : Int) : Option (Int × Int × Int × Int × (List (S83))) := (spec_l13Delta.f a0).bind fun t446 => (if t446 = true then (some (a0, 0, 0, 0, ([] : List (S83)))) else (some (0, 0, 0, 0, ([] : List (S83)))))
set_option maxHeartbeats 8000000 in
set_option maxRecDepth 100000 in
theorem spec_FairNew.calls (a0 r1 r2 r3 r4 : Int) (r5 : List (S83)) (w : World) (h : spec_FairNew.f a0 = some (r1, r2, r3, r4, r5)) :
  Calls Try.prog 33 #[I L a0] w fun e w'=>∃ v4_:Value,e=.returned (.agg #[I L r1,I L r2,I L r3,I L r4,v4_])∧Kd.R k83 83 w' w.heap.size (fun _=>True) v4_ r5∧Below w.heap.size w w':=by
 have hu59 := Try.underlying59
 have HB := D (Below.refl w.heap.size w)
 have H : ((spec_l13Delta.f a0).bind fun t446 => (if t446 = true then (some (a0, 0, 0, 0, ([] : List (S83)))) else (some (0, 0, 0, 0, ([] : List (S83)))))) = some (r1, r2, r3, r4, r5) := h
 clear h
 obtain ⟨t446, A20, H⟩ := bs_.mp H
 (try dsimp only at H)
 have A2 := D A20
 clear A20
 have HU3 := D H
 clear H
 go_enter Try.func33, Try.ntmps33
 go_upto_if 5 with (first|((with_reducible refine gate_dst (N:=2) rfl ?_);refine bx_ (N:=2) (cs:=#[I L 0,I L 0,I L 0,I L 0,Y none 0 0]) (t:=59) ?_;intro gb445 hg w4 hbox hb;have n_:=an_ (below_step (pB_ HB.out) hb)<|an_ (hbox)<|an_ (bg_ hg (pB_ HB.out):w.heap.size≤gb445)<|D (bg_ hg (pB_ HB.out):w.heap.size≤gb445);clear HB;obtain ⟨HB,BK445,GW445,GE445⟩:=n_;clear hb hbox hg)|((with_reducible refine gate_callee (f:=59) rfl ?_);refine goesL_ (some 4) rfl rfl Try.func59 (by kernel_rfl) rfl #[I L a0] rfl Z20 ?_;(with_reducible refine (spec_l13Delta.calls a0 t446 _ A2.out).mono ?_);rintro e w' ⟨rfl,⟨nd,rfl⟩⟩;refine ⟨_,rfl,?_⟩))
 have H := HU3.out
 clear HU3
 by_cases c5 : t446 = true
 ·subst c5
  rw [if_pos rfl] at H;simp only [Option.some.injEq,Prod.mk.injEq] at H;obtain ⟨rfl,rfl,rfl,rfl,rfl⟩:=H;have hcz6_0:=cells5 BK445.out
  go_wp2
  refine bodyPost_ret (results_cell_row rfl _ _ gb445 59 #[I L a0,I L 0,I L 0,I L 0,Y none 0 0] (0,0) _ rfl (by exact pP_ BK445.out) Try.underlying59 rfl (by kernel_rfl)) rfl ?_;exact ⟨_,er_,by first|exact Kd.R_nil _ _ _ _ _|exact Kd.N_nil _ _ _ _ _|exact Kd.V_nil _ _ _ _ _|exact Kd.Q_nil _ _ _ _ _|exact Kd.S_nil _ _ _ _ _,pB_ HB.out⟩
 ·replace c5 := Bool.eq_false_iff.mpr c5
  subst c5;rw [if_neg (show ¬ (false=true) by decide)] at H;simp only [Option.some.injEq,Prod.mk.injEq] at H;obtain ⟨rfl,rfl,rfl,rfl,rfl⟩:=H;have hcz7_0:=cells5 BK445.out
  go_wp2
  refine bodyPost_ret (results_cell_row rfl _ _ gb445 59 #[I L 0,I L 0,I L 0,I L 0,Y none 0 0] (0,0) _ rfl (by exact pP_ BK445.out) Try.underlying59 rfl (by kernel_rfl)) rfl ?_;exact ⟨_,er_,by first|exact Kd.R_nil _ _ _ _ _|exact Kd.N_nil _ _ _ _ _|exact Kd.V_nil _ _ _ _ _|exact Kd.Q_nil _ _ _ _ _|exact Kd.S_nil _ _ _ _ _,pB_ HB.out⟩

/-! ### spec_l01Cur_wide: function 60 -/
def spec_l01Cur_wide.f (s0_0 : List Int) (s0_1 s0_2 a1 : Int) : Option (Int × Int × Int) := (spec_l01Cur_pick.f s0_0 s0_1 s0_2 256).bind fun bt447 => ((spec_l01Cur_pick.f s0_0 bt447.2.1 bt447.2.2 256).bind fun bt450 => ((spec_l01Cur_pick.f s0_0 bt450.2.1 bt450.2.2 256).bind fun bt453 => (if a1 = 0 then (none) else (some (Int.tmod (wrap64 ((wrap64 ((wrap64 (65536 * bt447.1)) + (wrap64 (256 * bt450.1)))) + bt453.1)) a1, bt453.2.1, bt453.2.2)))))
set_option maxHeartbeats 8000000 in
set_option maxRecDepth 100000 in
theorem spec_l01Cur_wide.calls (g : Nat) (s0_0 : List Int) (s0_1 s0_2 a1 r1 r2 r3 : Int) (w0 w : World) (hI : IsS55 w0 w g s0_0 s0_1 s0_2) (hB : Below w0.heap.size w0 w) (h : spec_l01Cur_wide.f s0_0 s0_1 s0_2 a1 = some (r1, r2, r3)) :
  Calls Try.prog 60 #[.pointer (some ⟨g, 0, none⟩), I L a1] w fun e w' => e = .returned (I L r1) ∧ IsS55 w0 w' g s0_0 r2 r3 ∧ Below w0.heap.size w0 w' ∧ KeepBut w w' g none := by
 have HI0 := D hI
 have HK := D (KeepBut.refl w g none)
 have HL := D hB.size
 clear hI
 have HW0 := D hB.size
 have HB := D hB
 clear hB
 have H:((spec_l01Cur_pick.f s0_0 s0_1 s0_2 256).bind fun bt447=>((spec_l01Cur_pick.f s0_0 bt447.2.1 bt447.2.2 256).bind fun bt450=>((spec_l01Cur_pick.f s0_0 bt450.2.1 bt450.2.2 256).bind fun bt453=>(if a1=0 then (none) else (some (Int.tmod (wrap64 ((wrap64 ((wrap64 (65536 * bt447.1)) + (wrap64 (256 * bt450.1)))) + bt453.1)) a1,bt453.2.1,bt453.2.2))))))=some (r1,r2,r3):=h
 clear h
 obtain ⟨⟨t447, t448, t449⟩, A30, H⟩ := bs_.mp H
 (try dsimp only at H)
 have A3 := D A30
 clear A30
 obtain ⟨⟨t450, t451, t452⟩, A40, H⟩ := bs_.mp H
 (try dsimp only at H)
 have A4 := D A40
 clear A40
 obtain ⟨⟨t453, t454, t455⟩, A50, H⟩ := bs_.mp H
 (try dsimp only at H)
 have A5 := D A50
 clear A50
 by_cases c6 : a1 = 0
 ·rw [if_pos c6] at H
  exact absurd H (by simp)
 ·rw [if_neg c6] at H
  have c6b0:(a1 == 0)=false:=beq_eq_false_iff_ne.mpr c6;have c6b1:(a1 != 0)=true:=bne_iff_ne.mpr c6;simp only [Option.some.injEq,Prod.mk.injEq] at H;obtain ⟨rfl,rfl,rfl⟩:=H;go_enter Try.func60,Try.ntmps60
  go_wp2_with (first|((with_reducible refine gate_callee (f:=18) rfl ?_);refine goesL_ (some 6) rfl rfl Try.func18 (by kernel_rfl) rfl #[.pointer (some ⟨g,0,none⟩),I L 256] rfl Z20 ?_;(with_reducible refine (spec_l01Cur_pick.calls g s0_0 s0_1 s0_2 256 t447 t448 t449 w0 _ ?side1 ?side2 A3.out).mono ?_);(case side1=>exact pS55_ HI0.out);(case side2=>exact pT55_ HB.out);rintro e w7 ⟨rfl,hi,hb,hk⟩;refine ⟨_,rfl,?_⟩;have n_:=an_ (KeepBut.trans (pK_ HK.out) hk (.inl rfl))<|an_ (hb)<|D (hi);clear HK HB HI0;obtain ⟨HK,HB,HI0⟩:=n_;(try clear hb);(try clear hk);(try clear hi))|((with_reducible refine gate_callee (f:=18) rfl ?_);refine goesL_ (some 9) rfl rfl Try.func18 (by kernel_rfl) rfl #[.pointer (some ⟨g,0,none⟩),I L 256] rfl Z20 ?_;(with_reducible refine (spec_l01Cur_pick.calls g s0_0 t448 t449 256 t450 t451 t452 w0 _ ?side1 ?side2 A4.out).mono ?_);(case side1=>exact pS55_ HI0.out);(case side2=>exact pT55_ HB.out);rintro e w8 ⟨rfl,hi,hb,hk⟩;refine ⟨_,rfl,?_⟩;have n_:=an_ (KeepBut.trans (pK_ HK.out) hk (.inl rfl))<|an_ (hb)<|D (hi);clear HK HB HI0;obtain ⟨HK,HB,HI0⟩:=n_;(try clear hb);(try clear hk);(try clear hi))|((with_reducible refine gate_callee (f:=18) rfl ?_);refine goesL_ (some 13) rfl rfl Try.func18 (by kernel_rfl) rfl #[.pointer (some ⟨g,0,none⟩),I L 256] rfl Z20 ?_;(with_reducible refine (spec_l01Cur_pick.calls g s0_0 t451 t452 256 t453 t454 t455 w0 _ ?side1 ?side2 A5.out).mono ?_);(case side1=>exact pS55_ HI0.out);(case side2=>exact pT55_ HB.out);rintro e w9 ⟨rfl,hi,hb,hk⟩;refine ⟨_,rfl,?_⟩;have n_:=an_ (KeepBut.trans (pK_ HK.out) hk (.inl rfl))<|an_ (hb)<|D (hi);clear HK HB HI0;obtain ⟨HK,HB,HI0⟩:=n_;(try clear hb);(try clear hk);(try clear hi)))
  go_ret; exact ⟨er_, pS55_ HI0.out, pT55_ HB.out, pK_ HK.out⟩

/-! ### spec_l01Cur_delta: function 34 -/
def spec_l01Cur_delta.f (s0_0 : List Int) (s0_1 s0_2 : Int) : Option (Int × Int × Int) := (spec_l01Cur_wide.f s0_0 s0_1 s0_2 4194304).bind fun bt456 => ((some (([0, 1, 2520, 100000, 10000000, bt456.1] : List Int) : List Int)).bind fun y459 => ((spec_l01Cur_pick.f s0_0 bt456.2.1 bt456.2.2 6).bind fun bt462 => (if 0 ≤ bt462.1 then (if bt462.1 < (y459.length : Int) then (some (rd y459 bt462.1, bt462.2.1, bt462.2.2)) else (none)) else (none))))
set_option maxHeartbeats 8000000 in
set_option maxRecDepth 100000 in
theorem spec_l01Cur_delta.calls (g : Nat) (s0_0 : List Int) (s0_1 s0_2 r1 r2 r3 : Int) (w0 w : World) (hI : IsS55 w0 w g s0_0 s0_1 s0_2) (hB : Below w0.heap.size w0 w) (h : spec_l01Cur_delta.f s0_0 s0_1 s0_2 = some (r1, r2, r3)) :
  Calls Try.prog 34 #[.pointer (some ⟨g, 0, none⟩)] w fun e w' => e = .returned (I L r1) ∧ IsS55 w0 w' g s0_0 r2 r3 ∧ Below w0.heap.size w0 w' ∧ KeepBut w w' g none := by
 have HI0 := D hI
 have HK := D (KeepBut.refl w g none)
 have HL := D hB.size
 clear hI
 have HW0 := D hB.size
 have HB := D hB
 clear hB
 have H:((spec_l01Cur_wide.f s0_0 s0_1 s0_2 4194304).bind fun bt456=>((some (([0,1,2520,100000,10000000,bt456.1]:List Int):List Int)).bind fun y459=>((spec_l01Cur_pick.f s0_0 bt456.2.1 bt456.2.2 6).bind fun bt462=>(if 0≤bt462.1 then (if bt462.1 < (y459.length:Int) then (some (rd y459 bt462.1,bt462.2.1,bt462.2.2)) else (none)) else (none)))))=some (r1,r2,r3):=h
 clear h
 obtain ⟨⟨t456, t457, t458⟩, A20, H⟩ := bs_.mp H
 (try dsimp only at H)
 have A2 := D A20
 clear A20
 obtain ⟨y459, hy459⟩ : ∃ y_ : List Int, y_ = (([0, 1, 2520, 100000, 10000000, t456] : List Int)) := ⟨_, rfl⟩
 replace H:((spec_l01Cur_pick.f s0_0 t457 t458 6).bind fun bt462=>(if 0≤bt462.1 then (if bt462.1 < (y459.length:Int) then (some (rd y459 bt462.1,bt462.2.1,bt462.2.2)) else (none)) else (none)))=some (r1,r2,r3):=by first|(rw [hy459];with_reducible exact H)|(have H2_:=(Option.bind_some _ _).symm.trans H;rw [hy459];with_reducible exact H2_)|(have H2_:=(Option.bind_some _ _).symm.trans H;with_reducible exact H2_)|with_reducible exact H|(rw [hy459];exact H)|exact H
 have Ny459 := D hy459
 clear hy459
 obtain ⟨⟨t462, t463, t464⟩, A30, H⟩ := bs_.mp H
 (try dsimp only at H)
 have A3 := D A30
 clear A30
 by_cases c4 : 0 ≤ t462
 ·rw [if_pos c4] at H
  have c4b0 : decide (0 ≤ t462) = true := decide_eq_true c4; clear c4
  by_cases c5 : t462 < (y459.length : Int)
  ·rw [if_pos c5] at H
   have c5b0:decide (t462 < (y459.length:Int))=true:=decide_eq_true c5;clear c5;simp only [Option.some.injEq,Prod.mk.injEq] at H;obtain ⟨rfl,rfl,rfl⟩:=H;go_enter Try.func34,Try.ntmps34
   go_wp2_with (first|((with_reducible refine gate_callee (f:=60) rfl ?_);refine goesL_ (some 4) rfl rfl Try.func60 (by kernel_rfl) rfl #[.pointer (some ⟨g,0,none⟩),I L 4194304] rfl Z20 ?_;(with_reducible refine (spec_l01Cur_wide.calls g s0_0 s0_1 s0_2 4194304 t456 t457 t458 w0 _ ?side1 ?side2 A2.out).mono ?_);(case side1=>exact pS55_ HI0.out);(case side2=>exact pT55_ HB.out);rintro e w6 ⟨rfl,hi,hb,hk⟩;refine ⟨_,rfl,?_⟩;have n_:=an_ (KeepBut.trans (pK_ HK.out) hk (.inl rfl))<|an_ (hb)<|D (hi);clear HK HB HI0;obtain ⟨HK,HB,HI0⟩:=n_;(try clear hb);(try clear hk);(try clear hi))|((with_reducible refine gate_dst (N:=5) rfl ?_);refine Kd.R_lit (Kd.int .i64) _ 3 ?hg (N:=5) ?hd (xs:=([0,1,2520,100000,10000000,t456]:List Int)) (inner:=[I L 0,I L 1,I L 2520,I L 100000,I L 10000000,I L t456]) (ok:=fun _=>True) (okp:=fun _=>True) ?hr ?hp (fun _ hk=>hk) trivial (Below.refl _ _) (Nat.le_refl _) (by simp) ?_;(case hd=>rfl);(case hg=>rfl);(case hr=>first|(go_simp;done)|(go_simp;rfl));(case hp=>exact (Reps.one (show Kd.M (Kd.int .i64) _ _ _ 0 [I L 0] from rfl) (Reps.one (show Kd.M (Kd.int .i64) _ _ _ 1 [I L 1] from rfl) (Reps.one (show Kd.M (Kd.int .i64) _ _ _ 2520 [I L 2520] from rfl) (Reps.one (show Kd.M (Kd.int .i64) _ _ _ 100000 [I L 100000] from rfl) (Reps.one (show Kd.M (Kd.int .i64) _ _ _ 10000000 [I L 10000000] from rfl) (Reps.one (show Kd.M (Kd.int .i64) _ _ _ t456 [I L t456] from rfl) (Reps.none _ _))))))));intro v460 w7 ho8 hb hg_ hnew_;clear hg_ hnew_;(first|rw [← Ny459.out] at ho8|(simp only [Int.reduceToNat] at ho8;rw [← Ny459.out] at ho8));have n_:=an_ (Kd.R_lower ho8 (keep_size (w:=w) (g:=g) (row:=none) (pK_ HK.out)))<|an_ (IsS55.below (pU55_ HI0.out) hb)<|an_ (KeepBut.trans (pK_ HK.out) (KeepBut.of_below hb g none) (.inl rfl))<|D (below_step (pT55_ HB.out) hb);clear HI0 HK HB;obtain ⟨HO461,HI0,HK,HB⟩:=n_;clear hb ho8)|((with_reducible refine gate_callee (f:=18) rfl ?_);refine goesL_ (some 7) rfl rfl Try.func18 (by kernel_rfl) rfl #[.pointer (some ⟨g,0,none⟩),I L 6] rfl Z20 ?_;(with_reducible refine (spec_l01Cur_pick.calls g s0_0 t457 t458 6 t462 t463 t464 w0 _ ?side1 ?side2 A3.out).mono ?_);(case side1=>exact pS55_ HI0.out);(case side2=>exact pT55_ HB.out);rintro e w9 ⟨rfl,hi,hb,hk⟩;refine ⟨_,rfl,?_⟩;have n_:=an_ (Kd.R_mono (Kd.R_keep (IsS55.apart (show IsS55 w0 _ g s0_0 t457 t458 from pS55_ HI0.out) (pR_ HO461.out) (by decide)) hk (fun _ h=>h.2)) (fun _ h=>h.1))<|an_ (KeepBut.trans (pK_ HK.out) hk (.inl rfl))<|an_ (hb)<|D (hi);clear HO461 HK HB HI0;obtain ⟨HO461,HK,HB,HI0⟩:=n_;(try clear hb);(try clear hk);(try clear hi);obtain ⟨Ao10,co10,eo10⟩:=Kd.R_slice HO461.out;subst eo10;have p465:0≤(t462:Int):=od_ Z68;have q465:t462 < (y459.length:Int):=od_ Z68;obtain ⟨ad465,e465,hx465_0⟩:=Kd.at_int (Kd.R_reads' HO461.out).2.2 t462 p465 q465;cases e465;replace p465:=eq_true p465;replace q465:=eq_true q465))
   go_ret; exact ⟨er_, pS55_ HI0.out, pT55_ HB.out, pK_ HK.out⟩
  ·rw [if_neg c5] at H
   exact absurd H (by simp)
 ·rw [if_neg c4] at H
  exact absurd H (by simp)

/-! ### spec_l01Cur_size: function 36 -/
def spec_l01Cur_size.f (s0_0 : List Int) (s0_1 s0_2 a1 : Int) : Option (Int × Int × Int) := (spec_l01Cur_pick.f s0_0 s0_1 s0_2 (wrap64 ((mn a1 (wrap64 (1 + (wrap64 ((s0_0.length : Int) / 8))))) + 1))).bind fun bt466 => (some (bt466.1, bt466.2.1, bt466.2.2))
set_option maxHeartbeats 8000000 in
set_option maxRecDepth 100000 in
theorem spec_l01Cur_size.calls (g : Nat) (s0_0 : List Int) (s0_1 s0_2 a1 r1 r2 r3 : Int) (w0 w : World) (hI : IsS55 w0 w g s0_0 s0_1 s0_2) (hB : Below w0.heap.size w0 w) (h : spec_l01Cur_size.f s0_0 s0_1 s0_2 a1 = some (r1, r2, r3)) :
  Calls Try.prog 36 #[.pointer (some ⟨g, 0, none⟩), I L a1] w fun e w' => e = .returned (I L r1) ∧ IsS55 w0 w' g s0_0 r2 r3 ∧ Below w0.heap.size w0 w' ∧ KeepBut w w' g none := by
 have HI0 := D hI
 have HK := D (KeepBut.refl w g none)
 have HL := D hB.size
 clear hI
 have HW0 := D hB.size
 have HB := D hB
 clear hB
 have H:((spec_l01Cur_pick.f s0_0 s0_1 s0_2 (wrap64 ((mn a1 (wrap64 (1 + (wrap64 ((s0_0.length:Int) / 8))))) + 1))).bind fun bt466=>(some (bt466.1,bt466.2.1,bt466.2.2)))=some (r1,r2,r3):=h
 clear h
 obtain ⟨ji3, hji3⟩ : ∃ j_ : Int, (mn a1 (wrap64 (1 + (wrap64 ((s0_0.length : Int) / 8))))) = j_ := ⟨_, rfl⟩
 replace H:((spec_l01Cur_pick.f s0_0 s0_1 s0_2 (wrap64 ((ji3) + 1))).bind fun bt466=>(some (bt466.1,bt466.2.1,bt466.2.2)))=some (r1,r2,r3):=by first|(rw [hji3] at H;exact H)|(simp only [hji3] at H ⊢;exact H)
 have hji3_ : (if (wrap64 (1 + (wrap64 ((s0_0.length : Int) / 8)))) < a1 then (wrap64 (1 + (wrap64 ((s0_0.length : Int) / 8)))) else a1) = ji3 := hji3
 obtain ⟨⟨t466, t467, t468⟩, A40, H⟩ := bs_.mp H
 (try dsimp only at H)
 have A4 := D A40
 clear A40
 simp only [Option.some.injEq, Prod.mk.injEq] at H
 obtain ⟨rfl, rfl, rfl⟩ := H
 obtain ⟨ASz5_0, cSz5_0, HGz5, hgz5, HSz5_0⟩ := HI0.out
 have hcz5_0 := cellS55_0 HGz5
 have hcz5_1 := cellS55_1 HGz5
 have hcz5_2 := cellS55_2 HGz5
 have hfz5_1 := blk_frozen HGz5 1
 have hfz5_2 := blk_frozen HGz5 2
 clear HGz5 hgz5
 go_enter Try.func36, Try.ntmps36
 go_wp2_with (first|((with_reducible refine gate_callee (f:=18) rfl ?_);refine goesL_ (some 16) rfl rfl Try.func18 (by kernel_rfl) rfl #[.pointer (some ⟨g,0,none⟩),I L (wrap64 ((ji3) + 1))] rfl (by (try simp only [List.map_toArray,List.map_cons,List.map_nil]);first|done|(simp only [hji3];rfl)|rfl|(simp only [List.length_drop,List.length_take];rfl)) ?_;(with_reducible refine (spec_l01Cur_pick.calls g s0_0 s0_1 s0_2 (wrap64 ((ji3) + 1)) t466 t467 t468 w0 _ ?side1 ?side2 A4.out).mono ?_);(case side1=>exact pS55_ HI0.out);(case side2=>exact pT55_ HB.out);rintro e w6 ⟨rfl,hi,hb,hk⟩;refine ⟨_,rfl,?_⟩;have n_:=an_ (KeepBut.trans (pK_ HK.out) hk (.inl rfl))<|an_ (hb)<|D (hi);clear HK HB HI0;obtain ⟨HK,HB,HI0⟩:=n_;(try clear hb);(try clear hk);(try clear hi)))
 go_ret
 exact ⟨by first|rfl|(simp [errW_none,errW_some] <;> rfl)|(simp only [← hji3];first|rfl|(simp [errW_none,errW_some] <;> rfl))|(simp [*,errW_none,errW_some] <;> rfl),pS55_ HI0.out,pT55_ HB.out,pK_ HK.out⟩

/-! ### spec_l01Cur_cost: function 37 -/
def spec_l01Cur_cost.f (s0_0 : List Int) (s0_1 s0_2 a1 : Int) : Option (Int × Int × Int × Int × Int) := (some (([9, 100, a1, a1] : List Int) : List Int)).bind fun y470 => ((spec_l01Cur_pick.f s0_0 s0_1 s0_2 4).bind fun bt473 => (if 0 ≤ bt473.1 then (if bt473.1 < (y470.length : Int) then ((spec_l01Cur_wide.f s0_0 bt473.2.1 bt473.2.2 (rd y470 bt473.1)).bind fun bt477 => ((spec_l01Cur_wide.f s0_0 bt477.2.1 bt477.2.2 (rd y470 bt473.1)).bind fun bt480 => ((spec_l01Cur_wide.f s0_0 bt480.2.1 bt480.2.2 (rd y470 bt473.1)).bind fun bt483 => (some (wrap64 (1 + bt477.1), wrap64 (1 + bt480.1), wrap64 (1 + bt483.1), bt483.2.1, bt483.2.2))))) else (none)) else (none)))
set_option maxHeartbeats 8000000 in
set_option maxRecDepth 100000 in
theorem spec_l01Cur_cost.calls (g : Nat) (s0_0 : List Int) (s0_1 s0_2 a1 r1 r2 r3 r4 r5 : Int) (w0 w : World) (hI : IsS55 w0 w g s0_0 s0_1 s0_2) (hB : Below w0.heap.size w0 w) (h : spec_l01Cur_cost.f s0_0 s0_1 s0_2 a1 = some (r1, r2, r3, r4, r5)) :
  Calls Try.prog 37 #[.pointer (some ⟨g,0,none⟩),I L a1] w fun e w'=>e=.returned (.agg #[I L r1,I L r2,I L r3])∧IsS55 w0 w' g s0_0 r4 r5∧Below w0.heap.size w0 w'∧KeepBut w w' g none:=by
 have hu29 := Try.underlying29
 have HI0 := D hI
 have HK := D (KeepBut.refl w g none)
 have HL := D hB.size
 clear hI
 have HW0 := D hB.size
 have HB := D hB
 clear hB
 have H:((some (([9,100,a1,a1]:List Int):List Int)).bind fun y470=>((spec_l01Cur_pick.f s0_0 s0_1 s0_2 4).bind fun bt473=>(if 0≤bt473.1 then (if bt473.1 < (y470.length:Int) then ((spec_l01Cur_wide.f s0_0 bt473.2.1 bt473.2.2 (rd y470 bt473.1)).bind fun bt477=>((spec_l01Cur_wide.f s0_0 bt477.2.1 bt477.2.2 (rd y470 bt473.1)).bind fun bt480=>((spec_l01Cur_wide.f s0_0 bt480.2.1 bt480.2.2 (rd y470 bt473.1)).bind fun bt483=>(some (wrap64 (1 + bt477.1),wrap64 (1 + bt480.1),wrap64 (1 + bt483.1),bt483.2.1,bt483.2.2))))) else (none)) else (none))))=some (r1,r2,r3,r4,r5):=h
 clear h
 obtain ⟨y470, hy470⟩ : ∃ y_ : List Int, y_ = (([9, 100, a1, a1] : List Int)) := ⟨_, rfl⟩
 replace H:((spec_l01Cur_pick.f s0_0 s0_1 s0_2 4).bind fun bt473=>(if 0≤bt473.1 then (if bt473.1 < (y470.length:Int) then ((spec_l01Cur_wide.f s0_0 bt473.2.1 bt473.2.2 (rd y470 bt473.1)).bind fun bt477=>((spec_l01Cur_wide.f s0_0 bt477.2.1 bt477.2.2 (rd y470 bt473.1)).bind fun bt480=>((spec_l01Cur_wide.f s0_0 bt480.2.1 bt480.2.2 (rd y470 bt473.1)).bind fun bt483=>(some (wrap64 (1 + bt477.1),wrap64 (1 + bt480.1),wrap64 (1 + bt483.1),bt483.2.1,bt483.2.2))))) else (none)) else (none)))=some (r1,r2,r3,r4,r5):=by first|(rw [hy470];with_reducible exact H)|(have H2_:=(Option.bind_some _ _).symm.trans H;rw [hy470];with_reducible exact H2_)|(have H2_:=(Option.bind_some _ _).symm.trans H;with_reducible exact H2_)|with_reducible exact H|(rw [hy470];exact H)|exact H
 have Ny470 := D hy470
 clear hy470
 obtain ⟨⟨t473, t474, t475⟩, A30, H⟩ := bs_.mp H
 (try dsimp only at H)
 have A3 := D A30
 clear A30
 by_cases c4 : 0 ≤ t473
 ·rw [if_pos c4] at H
  have c4b0 : decide (0 ≤ t473) = true := decide_eq_true c4; clear c4
  by_cases c5 : t473 < (y470.length : Int)
  ·rw [if_pos c5] at H
   have c5b0:decide (t473 < (y470.length:Int))=true:=decide_eq_true c5;clear c5;obtain ⟨⟨t477,t478,t479⟩,A60,H⟩:=bs_.mp H;(try dsimp only at H);have A6:=D A60;clear A60;obtain ⟨⟨t480,t481,t482⟩,A70,H⟩:=bs_.mp H;(try dsimp only at H);have A7:=D A70;clear A70;obtain ⟨⟨t483,t484,t485⟩,A80,H⟩:=bs_.mp H;(try dsimp only at H);have A8:=D A80;clear A80;simp only [Option.some.injEq,Prod.mk.injEq] at H;obtain ⟨rfl,rfl,rfl,rfl,rfl⟩:=H;go_enter Try.func37,Try.ntmps37
   go_wp2_with (first|((with_reducible refine gate_dst (N:=4) rfl ?_);refine bx_ (N:=4) (cs:=#[I L 0,I L 0,I L 0]) (t:=29) ?_;intro gb469 hg w9 hbox hb;have n_:=an_ (IsS55.below (pU55_ HI0.out) hb)<|an_ (KeepBut.trans (pK_ HK.out) (KeepBut.of_below hb g none) (.inl rfl))<|an_ (below_step (pT55_ HB.out) hb)<|an_ (hbox)<|an_ ((by rw [hg];exact (keep_size (w:=w) (g:=g) (row:=none) (pK_ HK.out)):w.heap.size≤gb469))<|an_ ((Nat.le_trans HW0.out (by rw [hg];exact (keep_size (w:=w) (g:=g) (row:=none) (pK_ HK.out)):w.heap.size≤gb469):w0.heap.size≤gb469))<|an_ ((by rw [hg];exact Nat.ne_of_lt (IsS55.lt (show IsS55 w0 _ g s0_0 s0_1 s0_2 from pS55_ HI0.out)):g≠gb469))<|D (by rw [hg];exact Nat.ne_of_gt (IsS55.lt (show IsS55 w0 _ g s0_0 s0_1 s0_2 from pS55_ HI0.out)):gb469≠g);clear HI0 HK HB;obtain ⟨HI0,HK,HB,BK469,GW469,GE469,NB0_469,NB469_0⟩:=n_;clear hb hbox hg)|((with_reducible refine gate_dst (N:=8) rfl ?_);refine Kd.R_lit (Kd.int .i64) _ 3 ?hg (N:=8) ?hd (xs:=([9,100,a1,a1]:List Int)) (inner:=[I L 9,I L 100,I L a1,I L a1]) (ok:=fun _=>True) (okp:=fun _=>True) ?hr ?hp (fun _ hk=>hk) trivial (Below.refl _ _) (Nat.le_refl _) (by simp) ?_;(case hd=>rfl);(case hg=>rfl);(case hr=>first|(go_simp;done)|(go_simp;rfl));(case hp=>exact (Reps.one (show Kd.M (Kd.int .i64) _ _ _ 9 [I L 9] from rfl) (Reps.one (show Kd.M (Kd.int .i64) _ _ _ 100 [I L 100] from rfl) (Reps.one (show Kd.M (Kd.int .i64) _ _ _ a1 [I L a1] from rfl) (Reps.one (show Kd.M (Kd.int .i64) _ _ _ a1 [I L a1] from rfl) (Reps.none _ _))))));intro v471 w10 ho11 hb hg_ hnew_;clear hg_ hnew_;(first|rw [← Ny470.out] at ho11|(simp only [Int.reduceToNat] at ho11;rw [← Ny470.out] at ho11));have n_:=an_ (Kd.R_lower ho11 (keep_size (w:=w) (g:=g) (row:=none) (pK_ HK.out)))<|an_ (IsS55.below (pU55_ HI0.out) hb)<|an_ (blk_below (pk_ BK469.out) hb)<|an_ (KeepBut.trans (pK_ HK.out) (KeepBut.of_below hb g none) (.inl rfl))<|D (below_step (pT55_ HB.out) hb);clear HI0 BK469 HK HB;obtain ⟨HO472,HI0,BK469,HK,HB⟩:=n_;clear hb ho11)|((with_reducible refine gate_callee (f:=18) rfl ?_);refine goesL_ (some 10) rfl rfl Try.func18 (by kernel_rfl) rfl #[.pointer (some ⟨g,0,none⟩),I L 4] rfl Z20 ?_;(with_reducible refine (spec_l01Cur_pick.calls g s0_0 s0_1 s0_2 4 t473 t474 t475 w0 _ ?side1 ?side2 A3.out).mono ?_);(case side1=>exact pS55_ HI0.out);(case side2=>exact pT55_ HB.out);rintro e w12 ⟨rfl,hi,hb,hk⟩;refine ⟨_,rfl,?_⟩;have n_:=an_ (KeepBut.blk hk (pk_ BK469.out) NB469_0.out (by simp))<|an_ (Kd.R_mono (Kd.R_keep (IsS55.apart (show IsS55 w0 _ g s0_0 s0_1 s0_2 from pS55_ HI0.out) (pR_ HO472.out) (by decide)) hk (fun _ h=>h.2)) (fun _ h=>h.1))<|an_ (KeepBut.trans (pK_ HK.out) hk (.inl rfl))<|an_ (hb)<|D (hi);clear BK469 HO472 HK HB HI0;obtain ⟨BK469,HO472,HK,HB,HI0⟩:=n_;(try clear hb);(try clear hk);(try clear hi);obtain ⟨Ao13,co13,eo13⟩:=Kd.R_slice HO472.out;subst eo13;have p476:0≤(t473:Int):=od_ Z68;have q476:t473 < (y470.length:Int):=od_ Z68;obtain ⟨ad476,e476,hx476_0⟩:=Kd.at_int (Kd.R_reads' HO472.out).2.2 t473 p476 q476;cases e476;replace p476:=eq_true p476;replace q476:=eq_true q476)|((with_reducible refine gate_callee (f:=60) rfl ?_);refine goesL_ (some 15) rfl rfl Try.func60 (by kernel_rfl) rfl #[.pointer (some ⟨g,0,none⟩),I L (rd y470 t473)] rfl Z20 ?_;(with_reducible refine (spec_l01Cur_wide.calls g s0_0 t474 t475 (rd y470 t473) t477 t478 t479 w0 _ ?side1 ?side2 A6.out).mono ?_);(case side1=>exact pS55_ HI0.out);(case side2=>exact pT55_ HB.out);rintro e w14 ⟨rfl,hi,hb,hk⟩;refine ⟨_,rfl,?_⟩;have n_:=an_ (KeepBut.blk hk (pk_ BK469.out) NB469_0.out (by simp))<|an_ (Kd.R_mono (Kd.R_keep (IsS55.apart (show IsS55 w0 _ g s0_0 t474 t475 from pS55_ HI0.out) (pR_ HO472.out) (by decide)) hk (fun _ h=>h.2)) (fun _ h=>h.1))<|an_ (KeepBut.trans (pK_ HK.out) hk (.inl rfl))<|an_ (hb)<|D (hi);clear BK469 HO472 HK HB HI0;obtain ⟨BK469,HO472,HK,HB,HI0⟩:=n_;(try clear hb);(try clear hk);(try clear hi))|((with_reducible refine gate_callee (f:=60) rfl ?_);refine goesL_ (some 19) rfl rfl Try.func60 (by kernel_rfl) rfl #[.pointer (some ⟨g,0,none⟩),I L (rd y470 t473)] rfl Z20 ?_;(with_reducible refine (spec_l01Cur_wide.calls g s0_0 t478 t479 (rd y470 t473) t480 t481 t482 w0 _ ?side1 ?side2 A7.out).mono ?_);(case side1=>exact pS55_ HI0.out);(case side2=>exact pT55_ HB.out);rintro e w15 ⟨rfl,hi,hb,hk⟩;refine ⟨_,rfl,?_⟩;have n_:=an_ (KeepBut.blk hk (pk_ BK469.out) NB469_0.out (by simp))<|an_ (Kd.R_mono (Kd.R_keep (IsS55.apart (show IsS55 w0 _ g s0_0 t478 t479 from pS55_ HI0.out) (pR_ HO472.out) (by decide)) hk (fun _ h=>h.2)) (fun _ h=>h.1))<|an_ (KeepBut.trans (pK_ HK.out) hk (.inl rfl))<|an_ (hb)<|D (hi);clear BK469 HO472 HK HB HI0;obtain ⟨BK469,HO472,HK,HB,HI0⟩:=n_;(try clear hb);(try clear hk);(try clear hi))|((with_reducible refine gate_callee (f:=60) rfl ?_);refine goesL_ (some 23) rfl rfl Try.func60 (by kernel_rfl) rfl #[.pointer (some ⟨g,0,none⟩),I L (rd y470 t473)] rfl Z20 ?_;(with_reducible refine (spec_l01Cur_wide.calls g s0_0 t481 t482 (rd y470 t473) t483 t484 t485 w0 _ ?side1 ?side2 A8.out).mono ?_);(case side1=>exact pS55_ HI0.out);(case side2=>exact pT55_ HB.out);rintro e w16 ⟨rfl,hi,hb,hk⟩;refine ⟨_,rfl,?_⟩;have n_:=an_ (KeepBut.blk hk (pk_ BK469.out) NB469_0.out (by simp))<|an_ (Kd.R_mono (Kd.R_keep (IsS55.apart (show IsS55 w0 _ g s0_0 t481 t482 from pS55_ HI0.out) (pR_ HO472.out) (by decide)) hk (fun _ h=>h.2)) (fun _ h=>h.1))<|an_ (KeepBut.trans (pK_ HK.out) hk (.inl rfl))<|an_ (hb)<|D (hi);clear BK469 HO472 HK HB HI0;obtain ⟨BK469,HO472,HK,HB,HI0⟩:=n_;(try clear hb);(try clear hk);(try clear hi);(try have:=NB469_0.out);(try have:=NB0_469.out);have hcz18_0:=cells3 BK469.out))
   refine bodyPost_ret (results_cell_row rfl _ _ gb469 29 #[I L (wrap64 (1 + t477)),I L (wrap64 (1 + t480)),I L (wrap64 (1 + t483))] (0,0) _ rfl (by exact pP_ BK469.out) Try.underlying29 rfl (by kernel_rfl)) rfl ?_;exact ⟨er_,pS55_ HI0.out,pT55_ HB.out,pK_ HK.out⟩
  ·rw [if_neg c5] at H
   exact absurd H (by simp)
 ·rw [if_neg c4] at H
  exact absurd H (by simp)

/-! ### spec_l01Cur_acts: function 35 -/
mutual
def spec_l01Cur_acts.l0 : Nat → Int → List (S77) → Int → Int → List Int → Int → Int → Option ((List (S77)) × Int × Int)
 | 0, _, _, _, _, _, _, _ => none
 | k + 1,x1,x5,x6,x7,x1000,x1001,x1002=>if x7 < 4 then ((spec_l01Cur_pick.f x1000 x1001 x1002 10).bind fun bt492=>((some (([(⟨1,x7,wrap64 (1 + bt492.1),(⟨0,0,0⟩:S29),false⟩:S77),(⟨3,x7,0,(⟨0,0,0⟩:S29),false⟩:S77)]:List (S77)):List (S77))).bind fun y495=>(if x5.length + y495.length < 2513169434916 then (spec_l01Cur_acts.l0 k x1 (x5 ++ y495) x6 (wrap64 (x7 + 1)) x1000 bt492.2.1 bt492.2.2) else (none)))) else ((spec_l01Cur_size.f x1000 x1001 x1002 x1).bind fun bt501=>(spec_l01Cur_acts.l1 k x5 x6 bt501.1 x1000 bt501.2.1 bt501.2.2))
def spec_l01Cur_acts.l1 : Nat → List (S77) → Int → Int → List Int → Int → Int → Option ((List (S77)) × Int × Int)
 | 0, _, _, _, _, _, _ => none
 | k + 1,x5,x6,x8,x1000,x1001,x1002=>if x8 > 0 then ((some (([40,2000]:List Int):List Int)).bind fun y504=>((spec_l01Cur_pick.f x1000 x1001 x1002 2).bind fun bt507=>(if 0≤bt507.1 then (if bt507.1 < (y504.length:Int) then ((spec_l01Cur_cost.f x1000 bt507.2.1 bt507.2.2 (rd y504 bt507.1)).bind fun bt511=>((spec_l01Cur_once.f x1000 bt511.2.2.2.1 bt511.2.2.2.2 9).bind fun bt516=>((spec_l01Cur_pick.f x1000 bt516.2.1 bt516.2.2 10).bind fun bt520=>(if bt520.1=0 then ((spec_l01Cur_pick.f x1000 bt520.2.1 bt520.2.2 6).bind fun bt523=>((spec_l01Cur_pick.f x1000 bt523.2.1 bt523.2.2 6).bind fun bt526=>((spec_l01Cur_pick.f x1000 bt526.2.1 bt526.2.2 10).bind fun bt529=>((spec_l01Cur_cost.f x1000 bt529.2.1 bt529.2.2 9).bind fun bt532=>(if x5.length < 2513169434916 then (spec_l01Cur_acts.l1 k (x5 ++ [(⟨wrap64 (1 + bt523.1),bt526.1,wrap64 (1 + bt529.1),(⟨bt532.1,bt532.2.1,bt532.2.2.1⟩:S29),false⟩:S77)]) x6 (wrap64 (x8 - 1)) x1000 bt532.2.2.2.1 bt532.2.2.2.2) else (none)))))) else (if bt520.1=1 then ((spec_l01Cur_pick.f x1000 bt520.2.1 bt520.2.2 5).bind fun bt540=>(if x5.length < 2513169434916 then (spec_l01Cur_acts.l1 k (x5 ++ [(⟨3,bt540.1,0,(⟨0,0,0⟩:S29),false⟩:S77)]) x6 (wrap64 (x8 - 1)) x1000 bt540.2.1 bt540.2.2) else (none))) else (if bt520.1=2 then (if x5.length < 2513169434916 then (spec_l01Cur_acts.l1 k (x5 ++ [(⟨6,0,0,(⟨0,0,0⟩:S29),false⟩:S77)]) x6 (wrap64 (x8 - 1)) x1000 bt520.2.1 bt520.2.2) else (none)) else (if bt520.1=3 then (spec_l01Cur_acts.j2 k x5 x6 x8 (bt520.1 == 3) x1000 bt520.2.1 bt520.2.2 5 0 0 bt511.1 bt511.2.1 bt511.2.2.1 (!bt516.1)) else (if bt520.1=4 then (spec_l01Cur_acts.j2 k x5 x6 x8 (bt520.1 == 4) x1000 bt520.2.1 bt520.2.2 5 0 0 bt511.1 bt511.2.1 bt511.2.2.1 (!bt516.1)) else (spec_l01Cur_acts.j2 k x5 x6 x8 (bt520.1 == 5) x1000 bt520.2.1 bt520.2.2 5 0 0 bt511.1 bt511.2.1 bt511.2.2.1 (!bt516.1)))))))))) else (none)) else (none)))) else (some (x5,x1001,x1002))
def spec_l01Cur_acts.j2 : Nat → List (S77) → Int → Int → Bool → List Int → Int → Int → Int → Int → Int → Int → Int → Int → Bool → Option ((List (S77)) × Int × Int)
 | 0, _, _, _, _, _, _, _, _, _, _, _, _, _, _ => none
 | k + 1,x5,x6,x8,x69,x1000,x1001,x1002,x520000,x520001,x520002,x520003,x520004,x520005,x520006=>if x69=true then ((spec_l13List.f x520003 x520004 x520005).bind fun t549=>((spec_VecTop.f x520003 x520004 x520005).bind fun t552=>(if 0≤x6 then (if x6 < (t549.length:Int) then ((spec_l13Of.f (t549.set (x6:Int).toNat t552)).bind fun bt554=>(if x5.length < 2513169434916 then (spec_l01Cur_acts.l1 k (x5 ++ [(⟨x520000,x520001,x520002,(⟨bt554.1,bt554.2.1,bt554.2.2⟩:S29),x520006⟩:S77)]) x6 (wrap64 (x8 - 1)) x1000 x1001 x1002) else (none))) else (none)) else (none)))) else (if x5.length < 2513169434916 then (spec_l01Cur_acts.l1 k (x5 ++ [(⟨x520000,x520001,x520002,(⟨x520003,x520004,x520005⟩:S29),x520006⟩:S77)]) x6 (wrap64 (x8 - 1)) x1000 x1001 x1002) else (none))
end
def spec_l01Cur_acts.f (k : Nat) (s0_0 : List Int) (s0_1 s0_2 a1 : Int) : Option ((List (S77)) × Int × Int) := (spec_l01Cur_pick.f s0_0 s0_1 s0_2 3).bind fun bt489 => (spec_l01Cur_acts.l0 k a1 (([] : List (S77))) bt489.1 0 s0_0 bt489.2.1 bt489.2.2)
set_option maxHeartbeats 8000000 in
set_option maxRecDepth 100000 in
theorem spec_l01Cur_acts.calls (k g : Nat) (s0_0 : List Int) (s0_1 s0_2 a1 : Int) (r1 : List (S77)) (r2 r3 : Int) (w0 w : World) (hI : IsS55 w0 w g s0_0 s0_1 s0_2) (hB : Below w0.heap.size w0 w) (h : spec_l01Cur_acts.f k s0_0 s0_1 s0_2 a1 = some (r1, r2, r3)) :
  Calls Try.prog 35 #[.pointer (some ⟨g,0,none⟩),I L a1] w fun e w'=>∃ v0_:Value,e=.returned (v0_)∧Kd.R k77 77 w' w.heap.size (fun _=>True) v0_ r1∧IsS55 w0 w' g s0_0 r2 r3∧Below w0.heap.size w0 w'∧KeepBut w w' g none:=by
 have hu77 := Try.underlying77
 have hu29 := Try.underlying29
 have HI0 := D hI
 have HK := D (KeepBut.refl w g none)
 have HL := D hB.size
 clear hI
 have HW0 := D hB.size
 have HB := D hB
 clear hB
 have H : ((spec_l01Cur_pick.f s0_0 s0_1 s0_2 3).bind fun bt489 => (spec_l01Cur_acts.l0 k a1 (([] : List (S77))) bt489.1 0 s0_0 bt489.2.1 bt489.2.2)) = some (r1, r2, r3) := h
 clear h
 obtain ⟨y486, hy486⟩ : ∃ y_ : List (S77), y_ = (([] : List (S77))) := ⟨_, rfl⟩
 replace H:((spec_l01Cur_pick.f s0_0 s0_1 s0_2 3).bind fun bt489=>(spec_l01Cur_acts.l0 k a1 y486 bt489.1 0 s0_0 bt489.2.1 bt489.2.2))=some (r1,r2,r3):=by first|(rw [hy486];with_reducible exact H)|(have H2_:=(Option.bind_some _ _).symm.trans H;rw [hy486];with_reducible exact H2_)|(have H2_:=(Option.bind_some _ _).symm.trans H;with_reducible exact H2_)|with_reducible exact H|(rw [hy486];exact H)|exact H
 have Ny486 := D hy486
 clear hy486
 obtain ⟨⟨Mb, Mj, Oj⟩, A30, H⟩ := bs_.mp H
 (try dsimp only at H)
 have A3 := D A30
 clear A30
 have H' := D H
 clear H
 go_enter Try.func35, Try.ntmps35
 go_wp2_with (first|((with_reducible refine gate_dst (N:=11) rfl ?_);refine Kd.R_lit k77 _ 77 ?hg (N:=11) ?hd (xs:=([]:List (S77))) (inner:=[]) (ok:=fun _=>True) (okp:=fun _=>True) ?hr ?hp (fun _ hk=>hk) trivial (Below.refl _ _) (Nat.le_refl _) (by simp) ?_;(case hd=>rfl);(case hg=>rfl);(case hr=>first|(go_simp;done)|(go_simp;rfl));(case hp=>exact (Reps.none _ _));intro Jy w4 ho5 hb hg_ hnew_;clear hg_ hnew_;(first|rw [← Ny486.out] at ho5|(simp only [Int.reduceToNat] at ho5;rw [← Ny486.out] at ho5));have n_:=an_ (Kd.R_lower ho5 (keep_size (w:=w) (g:=g) (row:=none) (pK_ HK.out)))<|an_ (IsS55.below (pU55_ HI0.out) hb)<|an_ (KeepBut.trans (pK_ HK.out) (KeepBut.of_below hb g none) (.inl rfl))<|D (below_step (pT55_ HB.out) hb);clear HI0 HK HB;obtain ⟨Jg,HI0,HK,HB⟩:=n_;clear hb ho5)|((with_reducible refine gate_callee (f:=18) rfl ?_);refine goesL_ (some 13) rfl rfl Try.func18 (by kernel_rfl) rfl #[.pointer (some ⟨g,0,none⟩),I L 3] rfl Z20 ?_;(with_reducible refine (spec_l01Cur_pick.calls g s0_0 s0_1 s0_2 3 Mb Mj Oj w0 _ ?side1 ?side2 A3.out).mono ?_);(case side1=>exact pS55_ HI0.out);(case side2=>exact pT55_ HB.out);rintro e w6 ⟨rfl,hi,hb,hk⟩;refine ⟨_,rfl,?_⟩;have n_:=an_ (Kd.R_mono (Kd.R_keep (IsS55.apart (show IsS55 w0 _ g s0_0 s0_1 s0_2 from pS55_ HI0.out) (pR_ Jg.out) (by decide)) hk (fun _ h=>h.2)) (fun _ h=>h.1))<|an_ (KeepBut.trans (pK_ HK.out) hk (.inl rfl))<|an_ (hb)<|D (hi);clear Jg HK HB HI0;obtain ⟨Jg,HK,HB,HI0⟩:=n_;(try clear hb);(try clear hk);(try clear hi)))
 go_loopg [5,7] k (fun kq v5 v7 w'=>∃ (x5_1:List (S77)) (x7_1:Int) (Oe:Int) (Ue:Int),v7=I L x7_1∧Aside0 (spec_l01Cur_acts.l0 kq a1 x5_1 Mb x7_1 s0_0 Oe Ue=some (r1,r2,r3))∧Aside0 (kq≤k)∧Aside0 (Kd.R k77 77 w' w.heap.size (fun _=>True) v5 x5_1)∧Aside0 (IsS55 w0 w' g s0_0 Oe Ue)∧Aside0 (KeepBut w w' g none)∧Aside0 (Below w0.heap.size w0 w'))
 case atStart => exact ⟨(y486), (0), (Mj), (Oj), Z69, H', ⟨Nat.le_refl _⟩, ⟨pR_ Jg.out⟩, ⟨pS55_ HI0.out⟩, ⟨pK_ HK.out⟩, ⟨pT55_ HB.out⟩⟩
 case round =>
  clear H'
  (try clear c1);(try clear p2);(try clear c3)
  obtain ⟨x5_1, x7_1, Oe, Ue, rfl, HA, HK1, Ka, HI0, HK, HB⟩ := hrel
  cases gk with
  | zero => exact absurd HA.out (by simp [spec_l01Cur_acts.l0])
  | succ k1 =>
   have H := HA.out; clear HA; simp only [spec_l01Cur_acts.l0] at H
   by_cases c7 : x7_1 < 4
   ·rw [if_pos c7] at H
    have c7b0:decide (x7_1 < 4)=true:=decide_eq_true c7;clear c7;obtain ⟨⟨Xe,Kg,Mg⟩,A80,H⟩:=bs_.mp H;(try dsimp only at H);have A8:=D A80;clear A80;obtain ⟨y495,hy495⟩:∃ y_:List (S77),y_=(([(⟨1,x7_1,wrap64 (1 + Xe),(⟨0,0,0⟩:S29),false⟩:S77),(⟨3,x7_1,0,(⟨0,0,0⟩:S29),false⟩:S77)]:List (S77))):=⟨_,rfl⟩
    replace H:(if x5_1.length + y495.length < 2513169434916 then (spec_l01Cur_acts.l0 k1 a1 (x5_1 ++ y495) Mb (wrap64 (x7_1 + 1)) s0_0 Kg Mg) else (none))=some (r1,r2,r3):=by first|(rw [hy495];with_reducible exact H)|(have H2_:=(Option.bind_some _ _).symm.trans H;rw [hy495];with_reducible exact H2_)|(have H2_:=(Option.bind_some _ _).symm.trans H;with_reducible exact H2_)|with_reducible exact H|(rw [hy495];exact H)|exact H
    have Ny495 := D hy495; clear hy495
    by_cases c9 : x5_1.length + y495.length < 2513169434916
    ·rw [if_pos c9] at H
     have LMc9 := D c9; clear c9; obtain ⟨y498, hy498⟩ : ∃ y_ : List (S77), y_ = (x5_1 ++ y495) := ⟨_, rfl⟩
     replace H:(spec_l01Cur_acts.l0 k1 a1 y498 Mb (wrap64 (x7_1 + 1)) s0_0 Kg Mg)=some (r1,r2,r3):=by first|(rw [hy498];with_reducible exact H)|(have H2_:=(Option.bind_some _ _).symm.trans H;rw [hy498];with_reducible exact H2_)|(have H2_:=(Option.bind_some _ _).symm.trans H;with_reducible exact H2_)|with_reducible exact H|(rw [hy498];exact H)|exact H
     have Ny498 := D hy498; clear hy498; have H' := D H; clear H
     go_wp2_with (first|((with_reducible refine gate_callee (f:=18) rfl ?_);refine goesL_ (some 21) rfl rfl Try.func18 (by kernel_rfl) rfl #[.pointer (some ⟨g,0,none⟩),I L 10] rfl Z20 ?_;(with_reducible refine (spec_l01Cur_pick.calls g s0_0 Oe Ue 10 Xe Kg Mg w0 _ ?side1 ?side2 A8.out).mono ?_);(case side1=>exact pS55_ HI0.out);(case side2=>exact pT55_ HB.out);rintro e w10 ⟨rfl,hi,hb,hk⟩;refine ⟨_,rfl,?_⟩;have n_:=an_ (Kd.R_mono (Kd.R_keep (IsS55.apart (show IsS55 w0 _ g s0_0 Oe Ue from pS55_ HI0.out) (pR_ Ka.out) (by decide)) hk (fun _ h=>h.2)) (fun _ h=>h.1))<|an_ (KeepBut.trans (pK_ HK.out) hk (.inl rfl))<|an_ (hb)<|D (hi);clear Ka HK HB HI0;obtain ⟨Ka,HK,HB,HI0⟩:=n_;(try clear hb);(try clear hk);(try clear hi))|((with_reducible refine gate_dst (N:=26) rfl ?_);refine Kd.R_lit k77 _ 77 ?hg (N:=26) ?hd (xs:=([(⟨1,x7_1,wrap64 (1 + Xe),(⟨0,0,0⟩:S29),false⟩:S77),(⟨3,x7_1,0,(⟨0,0,0⟩:S29),false⟩:S77)]:List (S77))) (inner:=[I L 1,I L x7_1,I L (wrap64 (1 + Xe)),I L 0,I L 0,I L 0,.bool false,I L 3,I L x7_1,I L 0,I L 0,I L 0,I L 0,.bool false]) (ok:=fun _=>True) (okp:=fun _=>True) ?hr ?hp (fun _ hk=>hk) trivial (Below.refl _ _) (Nat.le_refl _) (by simp) ?_;(case hd=>rfl);(case hg=>rfl);(case hr=>first|(go_simp;done)|(go_simp;rfl));(case hp=>exact (Reps.c7 (show Kd.M k77 _ _ _ (⟨1,x7_1,wrap64 (1 + Xe),(⟨0,0,0⟩:S29),false⟩:S77) [I L 1,I L x7_1,I L (wrap64 (1 + Xe)),I L 0,I L 0,I L 0,.bool false] from (k77_mkM _ _ _ (⟨1,x7_1,wrap64 (1 + Xe),(⟨0,0,0⟩:S29),false⟩:S77) )) (Reps.c7 (show Kd.M k77 _ _ _ (⟨3,x7_1,0,(⟨0,0,0⟩:S29),false⟩:S77) [I L 3,I L x7_1,I L 0,I L 0,I L 0,I L 0,.bool false] from (k77_mkM _ _ _ (⟨3,x7_1,0,(⟨0,0,0⟩:S29),false⟩:S77) )) (Reps.none _ _))));intro Ky w11 ho12 hb hg_ hnew_;clear hg_ hnew_;(first|rw [← Ny495.out] at ho12|(simp only [Int.reduceToNat] at ho12;rw [← Ny495.out] at ho12));have n_:=an_ (Kd.R_elder' (pR_ Ka.out) (Kd.R_base ho12) hb)<|an_ (Kd.R_lower (nw_ ho12 (pR_ Ka.out)) (keep_size (w:=w) (g:=g) (row:=none) (pK_ HK.out)))<|an_ (IsS55.below (pU55_ HI0.out) hb)<|an_ (KeepBut.trans (pK_ HK.out) (KeepBut.of_below hb g none) (.inl rfl))<|D (below_step (pT55_ HB.out) hb);clear Ka HI0 HK HB;obtain ⟨Ka,Mf,HI0,HK,HB⟩:=n_;clear hb ho12;obtain ⟨Mk,Ok,eo14⟩:=Kd.R_slice Mf.out;subst eo14)|((with_reducible refine gate_builtin (b:=.append) (xs:=#[.tmp 18,.tmp 26]) rfl ?_);at_builtin;refine Kd.R_append_rows k77 w.heap.size rfl (.tmp 18) (.tmp 26) 64 77 (.agg #[(I L 0),(I L 0),(I L 0),(I L 0),(I L 0),(I L 0),(.bool false)]) 56 rfl Try.underlying64 info77 rfl (by decide) (by omega) u5 x5_1 y495 _ _ _ (fun k_=>some k_≠(Y Mk y495.length Ok:Value).ownBlock) (fun _=>False) rfl rfl ?aO ?aR (fun _ _ h=>h) (fun _ h=>h.elim) ?aF (Below.refl _ _) ?aS ?aL ?_;(case aR=>exact pC_ ((Kd.R_reads' Mf.out).2.2));(case aF=>exact (fun k_ hk=>Kd.fresh' (Kd.R_lt (pR_ Mf.out)) k_ hk));(case aO=>exact (pR_ (Kd.R_mono Ka.out (fun _ hk=>hk.2))));(case aS=>exact (keep_size (w:=w) (g:=g) (row:=none) (pK_ HK.out)));(case aL=>have:=LMc9.out;omega);intro My w13 ho hb hg hat;rw [← Ny498.out] at ho;have n_:=an_ (IsS55.grown (pU55_ HI0.out) hg (IsS55.own_ne HI0.out Ka.out (by decide)))<|an_ (Kd.R_after (ok:=(fun _=>True)) (pR_ Mf.out) hg hat)<|an_ (below_weaken (pT55_ HB.out) HL.out hb)<|an_ (KeepBut.trans (pK_ HK.out) (KeepBut.of_grown hg g) (Kd.R_base2 Ka.out))<|D (ho);clear HI0 Mf HB HK Ka;obtain ⟨HI0,Mf,HB,HK,Uk⟩:=n_;clear ho hb hg hat))
     go_roundg k1
     case measure => have := HK1.out; omega
     case rel => exact ⟨(y498), (wrap64 (x7_1 + 1)), (Kg), (Mg), Z69, H', ⟨by have := HK1.out; omega⟩, ⟨pR_ (Kd.R_mono Uk.out (fun _ hk => trivial))⟩, ⟨pS55_ HI0.out⟩, ⟨pK_ HK.out⟩, ⟨pT55_ HB.out⟩⟩
    ·rw [if_neg c9] at H
     exact absurd H (by simp)
   ·rw [if_neg c7] at H
    have c7b0:decide (x7_1 < 4)=false:=decide_eq_false c7;clear c7;obtain ⟨⟨Uj,Xj,Jk⟩,A150,H⟩:=bs_.mp H;(try dsimp only at H);have A15:=D A150;clear A150;have H':=D H;clear H
    go_wp2_with (first|((with_reducible refine gate_callee (f:=36) rfl ?_);refine goesL_ (some 30) rfl rfl Try.func36 (by kernel_rfl) rfl #[.pointer (some ⟨g,0,none⟩),I L a1] rfl Z20 ?_;(with_reducible refine (spec_l01Cur_size.calls g s0_0 Oe Ue a1 Uj Xj Jk w0 _ ?side1 ?side2 A15.out).mono ?_);(case side1=>exact pS55_ HI0.out);(case side2=>exact pT55_ HB.out);rintro e w16 ⟨rfl,hi,hb,hk⟩;refine ⟨_,rfl,?_⟩;have n_:=an_ (Kd.R_mono (Kd.R_keep (IsS55.apart (show IsS55 w0 _ g s0_0 Oe Ue from pS55_ HI0.out) (pR_ Ka.out) (by decide)) hk (fun _ h=>h.2)) (fun _ h=>h.1))<|an_ (KeepBut.trans (pK_ HK.out) hk (.inl rfl))<|an_ (hb)<|D (hi);clear Ka HK HB HI0;obtain ⟨Ka,HK,HB,HI0⟩:=n_;(try clear hb);(try clear hk);(try clear hi)))
    go_loopg [5,8] k1 (fun kq v5 v8 w'=>∃ (x5_2:List (S77)) (x8_2:Int) (Jf:Int) (Kf:Int),v8=I L x8_2∧Aside0 (spec_l01Cur_acts.l1 kq x5_2 Mb x8_2 s0_0 Jf Kf=some (r1,r2,r3))∧Aside0 (kq≤k1)∧Aside0 (Kd.R k77 77 w' w.heap.size (fun _=>True) v5 x5_2)∧Aside0 (IsS55 w0 w' g s0_0 Jf Kf)∧Aside0 (KeepBut w w' g none)∧Aside0 (Below w0.heap.size w0 w'))
    case atStart => exact ⟨(x5_1), (Uj), (Xj), (Jk), Z69, H', ⟨Nat.le_refl _⟩, ⟨pR_ Ka.out⟩, ⟨pS55_ HI0.out⟩, ⟨pK_ HK.out⟩, ⟨pT55_ HB.out⟩⟩
    case round =>
     clear H'
     (try clear c1);(try clear p2);(try clear c3);(try clear p6);(try clear c7);(try clear c7b0);(try clear c9);(try clear p2)
     obtain ⟨x5_2, x8_2, Jf, Kf, rfl, HA, HK2, Ka, HI0, HK, HB⟩ := hrel
     cases gk with
     | zero => exact absurd HA.out (by simp [spec_l01Cur_acts.l1])
     | succ k2 =>
      have H := HA.out; clear HA; simp only [spec_l01Cur_acts.l1] at H
      by_cases c17 : x8_2 > 0
      ·rw [if_pos c17] at H
       have c17b0 : decide (0 < x8_2) = true := decide_eq_true c17; clear c17; obtain ⟨y504, hy504⟩ : ∃ y_ : List Int, y_ = (([40, 2000] : List Int)) := ⟨_, rfl⟩
       replace H:((spec_l01Cur_pick.f s0_0 Jf Kf 2).bind fun bt507=>(if 0≤bt507.1 then (if bt507.1 < (y504.length:Int) then ((spec_l01Cur_cost.f s0_0 bt507.2.1 bt507.2.2 (rd y504 bt507.1)).bind fun bt511=>((spec_l01Cur_once.f s0_0 bt511.2.2.2.1 bt511.2.2.2.2 9).bind fun bt516=>((spec_l01Cur_pick.f s0_0 bt516.2.1 bt516.2.2 10).bind fun bt520=>(if bt520.1=0 then ((spec_l01Cur_pick.f s0_0 bt520.2.1 bt520.2.2 6).bind fun bt523=>((spec_l01Cur_pick.f s0_0 bt523.2.1 bt523.2.2 6).bind fun bt526=>((spec_l01Cur_pick.f s0_0 bt526.2.1 bt526.2.2 10).bind fun bt529=>((spec_l01Cur_cost.f s0_0 bt529.2.1 bt529.2.2 9).bind fun bt532=>(if x5_2.length < 2513169434916 then (spec_l01Cur_acts.l1 k2 (x5_2 ++ [(⟨wrap64 (1 + bt523.1),bt526.1,wrap64 (1 + bt529.1),(⟨bt532.1,bt532.2.1,bt532.2.2.1⟩:S29),false⟩:S77)]) Mb (wrap64 (x8_2 - 1)) s0_0 bt532.2.2.2.1 bt532.2.2.2.2) else (none)))))) else (if bt520.1=1 then ((spec_l01Cur_pick.f s0_0 bt520.2.1 bt520.2.2 5).bind fun bt540=>(if x5_2.length < 2513169434916 then (spec_l01Cur_acts.l1 k2 (x5_2 ++ [(⟨3,bt540.1,0,(⟨0,0,0⟩:S29),false⟩:S77)]) Mb (wrap64 (x8_2 - 1)) s0_0 bt540.2.1 bt540.2.2) else (none))) else (if bt520.1=2 then (if x5_2.length < 2513169434916 then (spec_l01Cur_acts.l1 k2 (x5_2 ++ [(⟨6,0,0,(⟨0,0,0⟩:S29),false⟩:S77)]) Mb (wrap64 (x8_2 - 1)) s0_0 bt520.2.1 bt520.2.2) else (none)) else (if bt520.1=3 then (spec_l01Cur_acts.j2 k2 x5_2 Mb x8_2 (bt520.1 == 3) s0_0 bt520.2.1 bt520.2.2 5 0 0 bt511.1 bt511.2.1 bt511.2.2.1 (!bt516.1)) else (if bt520.1=4 then (spec_l01Cur_acts.j2 k2 x5_2 Mb x8_2 (bt520.1 == 4) s0_0 bt520.2.1 bt520.2.2 5 0 0 bt511.1 bt511.2.1 bt511.2.2.1 (!bt516.1)) else (spec_l01Cur_acts.j2 k2 x5_2 Mb x8_2 (bt520.1 == 5) s0_0 bt520.2.1 bt520.2.2 5 0 0 bt511.1 bt511.2.1 bt511.2.2.1 (!bt516.1)))))))))) else (none)) else (none)))=some (r1,r2,r3):=by first|(rw [hy504];with_reducible exact H)|(have H2_:=(Option.bind_some _ _).symm.trans H;rw [hy504];with_reducible exact H2_)|(have H2_:=(Option.bind_some _ _).symm.trans H;with_reducible exact H2_)|with_reducible exact H|(rw [hy504];exact H)|exact H
       have Ny504 := D hy504; clear hy504; obtain ⟨⟨Je, Og, Ug⟩, A180, H⟩ := bs_.mp H; (try dsimp only at H); have A18 := D A180; clear A180
       by_cases c19 : 0 ≤ Je
       ·rw [if_pos c19] at H
        have c19b0 : decide (0 ≤ Je) = true := decide_eq_true c19; clear c19
        by_cases c20 : Je < (y504.length : Int)
        ·rw [if_pos c20] at H
         have c20b0:decide (Je < (y504.length:Int))=true:=decide_eq_true c20;clear c20;obtain ⟨⟨Jb,Xa,Ua,Xg,Jh⟩,A210,H⟩:=bs_.mp H;(try dsimp only at H);have A21:=D A210;clear A210;obtain ⟨⟨Ma,Of,Uf⟩,A220,H⟩:=bs_.mp H;(try dsimp only at H);have A22:=D A220;clear A220;obtain ⟨⟨Ob,Oc,Uc⟩,A230,H⟩:=bs_.mp H;(try dsimp only at H);have A23:=D A230;clear A230;have HU24:=D H;clear H
         go_upto_if 48 with (first|((with_reducible refine gate_dst (N:=36) rfl ?_);refine Kd.R_lit (Kd.int .i64) _ 3 ?hg (N:=36) ?hd (xs:=([40,2000]:List Int)) (inner:=[I L 40,I L 2000]) (ok:=fun _=>True) (okp:=fun _=>True) ?hr ?hp (fun _ hk=>hk) trivial (Below.refl _ _) (Nat.le_refl _) (by simp) ?_;(case hd=>rfl);(case hg=>rfl);(case hr=>first|(go_simp;done)|(go_simp;rfl));(case hp=>exact (Reps.one (show Kd.M (Kd.int .i64) _ _ _ 40 [I L 40] from rfl) (Reps.one (show Kd.M (Kd.int .i64) _ _ _ 2000 [I L 2000] from rfl) (Reps.none _ _))));intro Oy w25 ho26 hb hg_ hnew_;clear hg_ hnew_;(first|rw [← Ny504.out] at ho26|(simp only [Int.reduceToNat] at ho26;rw [← Ny504.out] at ho26));have n_:=an_ (Kd.R_below (pR_ Ka.out) hb)<|an_ (Kd.R_lower ho26 (keep_size (w:=w) (g:=g) (row:=none) (pK_ HK.out)))<|an_ (IsS55.below (pU55_ HI0.out) hb)<|an_ (KeepBut.trans (pK_ HK.out) (KeepBut.of_below hb g none) (.inl rfl))<|D (below_step (pT55_ HB.out) hb);clear Ka HI0 HK HB;obtain ⟨Ka,Kb,HI0,HK,HB⟩:=n_;clear hb ho26)|((with_reducible refine gate_callee (f:=18) rfl ?_);refine goesL_ (some 38) rfl rfl Try.func18 (by kernel_rfl) rfl #[.pointer (some ⟨g,0,none⟩),I L 2] rfl Z20 ?_;(with_reducible refine (spec_l01Cur_pick.calls g s0_0 Jf Kf 2 Je Og Ug w0 _ ?side1 ?side2 A18.out).mono ?_);(case side1=>exact pS55_ HI0.out);(case side2=>exact pT55_ HB.out);rintro e w27 ⟨rfl,hi,hb,hk⟩;refine ⟨_,rfl,?_⟩;have n_:=an_ (Kd.R_mono (Kd.R_keep (IsS55.apart (show IsS55 w0 _ g s0_0 Jf Kf from pS55_ HI0.out) (pR_ Ka.out) (by decide)) hk (fun _ h=>h.2)) (fun _ h=>h.1))<|an_ (Kd.R_mono (Kd.R_keep (IsS55.apart (show IsS55 w0 _ g s0_0 Jf Kf from pS55_ HI0.out) (pR_ Kb.out) (by decide)) hk (fun _ h=>h.2)) (fun _ h=>h.1))<|an_ (KeepBut.trans (pK_ HK.out) hk (.inl rfl))<|an_ (hb)<|D (hi);clear Ka Kb HK HB HI0;obtain ⟨Ka,Kb,HK,HB,HI0⟩:=n_;(try clear hb);(try clear hk);(try clear hi);obtain ⟨Uy,Xy,eo28⟩:=Kd.R_slice Kb.out;subst eo28;have p510:0≤(Je:Int):=od_ Z68;have q510:Je < (y504.length:Int):=od_ Z68;obtain ⟨ad510,e510,hx510_0⟩:=Kd.at_int (Kd.R_reads' Kb.out).2.2 Je p510 q510;cases e510;replace p510:=eq_true p510;replace q510:=eq_true q510)|((with_reducible refine gate_callee (f:=37) rfl ?_);refine goesL_ (some 41) rfl rfl Try.func37 (by kernel_rfl) rfl #[.pointer (some ⟨g,0,none⟩),I L (rd y504 Je)] rfl Z20 ?_;(with_reducible refine (spec_l01Cur_cost.calls g s0_0 Og Ug (rd y504 Je) Jb Xa Ua Xg Jh w0 _ ?side1 ?side2 A21.out).mono ?_);(case side1=>exact pS55_ HI0.out);(case side2=>exact pT55_ HB.out);rintro e w29 ⟨rfl,hi,hb,hk⟩;refine ⟨_,rfl,?_⟩;have n_:=an_ (Kd.R_mono (Kd.R_keep (IsS55.apart (show IsS55 w0 _ g s0_0 Og Ug from pS55_ HI0.out) (pR_ Ka.out) (by decide)) hk (fun _ h=>h.2)) (fun _ h=>h.1))<|an_ (Kd.R_mono (Kd.R_keep (IsS55.apart (show IsS55 w0 _ g s0_0 Og Ug from pS55_ HI0.out) (pR_ Kb.out) (by decide)) hk (fun _ h=>h.2)) (fun _ h=>h.1))<|an_ (KeepBut.trans (pK_ HK.out) hk (.inl rfl))<|an_ (hb)<|D (hi);clear Ka Kb HK HB HI0;obtain ⟨Ka,Kb,HK,HB,HI0⟩:=n_;(try clear hb);(try clear hk);(try clear hi))|((with_reducible refine gate_callee (f:=31) rfl ?_);refine goesL_ (some 43) rfl rfl Try.func31 (by kernel_rfl) rfl #[.pointer (some ⟨g,0,none⟩),I L 9] rfl Z20 ?_;(with_reducible refine (spec_l01Cur_once.calls g s0_0 Xg Jh 9 Ma Of Uf w0 _ ?side1 ?side2 A22.out).mono ?_);(case side1=>exact pS55_ HI0.out);(case side2=>exact pT55_ HB.out);rintro e w30 ⟨rfl,hi,hb,hk⟩;refine ⟨_,rfl,?_⟩;have n_:=an_ (Kd.R_mono (Kd.R_keep (IsS55.apart (show IsS55 w0 _ g s0_0 Xg Jh from pS55_ HI0.out) (pR_ Ka.out) (by decide)) hk (fun _ h=>h.2)) (fun _ h=>h.1))<|an_ (Kd.R_mono (Kd.R_keep (IsS55.apart (show IsS55 w0 _ g s0_0 Xg Jh from pS55_ HI0.out) (pR_ Kb.out) (by decide)) hk (fun _ h=>h.2)) (fun _ h=>h.1))<|an_ (KeepBut.trans (pK_ HK.out) hk (.inl rfl))<|an_ (hb)<|D (hi);clear Ka Kb HK HB HI0;obtain ⟨Ka,Kb,HK,HB,HI0⟩:=n_;(try clear hb);(try clear hk);(try clear hi))|((with_reducible refine gate_dst (N:=9) rfl ?_);refine bx_ (N:=9) (cs:=#[I L 0,I L 0,I L 0,I L 0,I L 0,I L 0,.bool false]) (t:=77) ?_;intro Oa hg w31 hbox hb;have n_:=an_ (Kd.R_below (Kd.R_elderB (pR_ Ka.out) Oa (Nat.le_of_eq hg.symm)) hb)<|an_ (Kd.R_below (pR_ Kb.out) hb)<|an_ (IsS55.below (pU55_ HI0.out) hb)<|an_ (KeepBut.trans (pK_ HK.out) (KeepBut.of_below hb g none) (.inl rfl))<|an_ (below_step (pT55_ HB.out) hb)<|an_ (hbox)<|an_ ((by rw [hg];exact (keep_size (w:=w) (g:=g) (row:=none) (pK_ HK.out)):w.heap.size≤Oa))<|an_ ((Nat.le_trans HW0.out (by rw [hg];exact (keep_size (w:=w) (g:=g) (row:=none) (pK_ HK.out)):w.heap.size≤Oa):w0.heap.size≤Oa))<|an_ ((by rw [hg];exact Nat.ne_of_lt (IsS55.lt (show IsS55 w0 _ g s0_0 Of Uf from pS55_ HI0.out)):g≠Oa))<|D (by rw [hg];exact Nat.ne_of_gt (IsS55.lt (show IsS55 w0 _ g s0_0 Of Uf from pS55_ HI0.out)):Oa≠g);clear Ka Kb HI0 HK HB;obtain ⟨Ka,Kb,HI0,HK,HB,Ja,Jz,Kz,Xf,Od⟩:=n_;clear hb hbox hg;(try have:=Od.out);(try have:=Xf.out);have Xk:=cells7 Ja.out)|((with_reducible refine gate_callee (f:=18) rfl ?_);refine goesL_ (some 47) rfl rfl Try.func18 (by kernel_rfl) rfl #[.pointer (some ⟨g,0,none⟩),I L 10] rfl Z20 ?_;(with_reducible refine (spec_l01Cur_pick.calls g s0_0 Of Uf 10 Ob Oc Uc w0 _ ?side1 ?side2 A23.out).mono ?_);(case side1=>exact pS55_ HI0.out);(case side2=>exact pT55_ HB.out);rintro e w34 ⟨rfl,hi,hb,hk⟩;refine ⟨_,rfl,?_⟩;have n_:=an_ (Kd.R_mono (Kd.R_keep (IsS55.apart (show IsS55 w0 _ g s0_0 Of Uf from pS55_ HI0.out) (rM_ (Kd.R_mono Ka.out (fun k_ hk=>(⟨hk,hk.2⟩:_∧k_≠Oa))) (fun _ h_=>h_.1)) (by decide)) hk (fun _ h=>h.2)) (fun _ h=>h.1))<|an_ (Kd.R_mono (Kd.R_keep (IsS55.apart (show IsS55 w0 _ g s0_0 Of Uf from pS55_ HI0.out) (rM_ (Kd.R_types Kb.out Ja.out (by decide)) (fun _ h_=>h_.1)) (by decide)) hk (fun _ h=>h.2)) (fun _ h=>h.1))<|an_ (KeepBut.blk hk (g':=Oa) (o:=.cells #[I L 5,I L 0,I L 0,I L Jb,I L Xa,I L Ua,.bool (!Ma)] 77 (0,0)) (by exact pP_ Ja.out) Od.out (by simp))<|an_ (KeepBut.trans (pK_ HK.out) hk (.inl rfl))<|an_ (hb)<|D (hi);clear Ka Kb Ja HK HB HI0;obtain ⟨Ka,Kb,Ja,HK,HB,HI0⟩:=n_;(try clear hb);(try clear hk);(try clear hi)))
         have H := HU24.out; clear HU24
         by_cases c35 : Ob = 0
         ·rw [if_pos c35] at H
          have c35b0:(Ob == 0)=true:=beq_iff_eq.mpr c35;have c35b1:(Ob != 0)=false:=bne_eq_false_iff_eq.mpr c35;clear c35;refine rw_ c35b0 ?_;obtain ⟨⟨Xb,Kh,Mh⟩,A360,H⟩:=bs_.mp H;(try dsimp only at H);have A36:=D A360;clear A360;obtain ⟨⟨Jc,Oh,Uh⟩,A370,H⟩:=bs_.mp H;(try dsimp only at H);have A37:=D A370;clear A370;obtain ⟨⟨Mc,Xh,Ji⟩,A380,H⟩:=bs_.mp H;(try dsimp only at H);have A38:=D A380;clear A380;obtain ⟨⟨Xc,Jd,Ud,Oi,Ui⟩,A390,H⟩:=bs_.mp H;(try dsimp only at H);have A39:=D A390;clear A390
          by_cases c40 : x5_2.length < 2513169434916
          ·rw [if_pos c40] at H
           have LMc40 := D c40; clear c40; obtain ⟨y537, hy537⟩ : ∃ y_ : List (S77), y_ = (x5_2 ++ [(⟨wrap64 (1 + Xb), Jc, wrap64 (1 + Mc), (⟨Xc, Jd, Ud⟩ : S29), false⟩ : S77)]) := ⟨_, rfl⟩
           replace H:(spec_l01Cur_acts.l1 k2 y537 Mb (wrap64 (x8_2 - 1)) s0_0 Oi Ui)=some (r1,r2,r3):=by first|(rw [hy537];with_reducible exact H)|(have H2_:=(Option.bind_some _ _).symm.trans H;rw [hy537];with_reducible exact H2_)|(have H2_:=(Option.bind_some _ _).symm.trans H;with_reducible exact H2_)|with_reducible exact H|(rw [hy537];exact H)|exact H
           have Ny537 := D hy537; clear hy537; have H' := D H; clear H
           go_wp2_with (first|((with_reducible refine gate_callee (f:=18) rfl ?_);refine goesL_ (some 51) rfl rfl Try.func18 (by kernel_rfl) rfl #[.pointer (some ⟨g,0,none⟩),I L 6] rfl Z20 ?_;(with_reducible refine (spec_l01Cur_pick.calls g s0_0 Oc Uc 6 Xb Kh Mh w0 _ ?side1 ?side2 A36.out).mono ?_);(case side1=>exact pS55_ HI0.out);(case side2=>exact pT55_ HB.out);rintro e w41 ⟨rfl,hi,hb,hk⟩;refine ⟨_,rfl,?_⟩;have n_:=an_ (Kd.R_mono (Kd.R_keep (IsS55.apart (show IsS55 w0 _ g s0_0 Oc Uc from pS55_ HI0.out) (pR_ Ka.out) (by decide)) hk (fun _ h=>h.2)) (fun _ h=>h.1))<|an_ (Kd.R_mono (Kd.R_keep (IsS55.apart (show IsS55 w0 _ g s0_0 Oc Uc from pS55_ HI0.out) (pR_ Kb.out) (by decide)) hk (fun _ h=>h.2)) (fun _ h=>h.1))<|an_ (KeepBut.blk hk (pk_ Ja.out) Od.out (by simp))<|an_ (KeepBut.trans (pK_ HK.out) hk (.inl rfl))<|an_ (hb)<|D (hi);clear Ka Kb Ja HK HB HI0;obtain ⟨Ka,Kb,Ja,HK,HB,HI0⟩:=n_;(try clear hb);(try clear hk);(try clear hi))|((with_reducible refine gate_callee (f:=18) rfl ?_);refine goesL_ (some 54) rfl rfl Try.func18 (by kernel_rfl) rfl #[.pointer (some ⟨g,0,none⟩),I L 6] rfl Z20 ?_;(with_reducible refine (spec_l01Cur_pick.calls g s0_0 Kh Mh 6 Jc Oh Uh w0 _ ?side1 ?side2 A37.out).mono ?_);(case side1=>exact pS55_ HI0.out);(case side2=>exact pT55_ HB.out);rintro e w42 ⟨rfl,hi,hb,hk⟩;refine ⟨_,rfl,?_⟩;have n_:=an_ (Kd.R_mono (Kd.R_keep (IsS55.apart (show IsS55 w0 _ g s0_0 Kh Mh from pS55_ HI0.out) (pR_ Ka.out) (by decide)) hk (fun _ h=>h.2)) (fun _ h=>h.1))<|an_ (Kd.R_mono (Kd.R_keep (IsS55.apart (show IsS55 w0 _ g s0_0 Kh Mh from pS55_ HI0.out) (pR_ Kb.out) (by decide)) hk (fun _ h=>h.2)) (fun _ h=>h.1))<|an_ (KeepBut.blk hk (pk_ Ja.out) Od.out (by simp))<|an_ (KeepBut.trans (pK_ HK.out) hk (.inl rfl))<|an_ (hb)<|D (hi);clear Ka Kb Ja HK HB HI0;obtain ⟨Ka,Kb,Ja,HK,HB,HI0⟩:=n_;(try clear hb);(try clear hk);(try clear hi))|((with_reducible refine gate_callee (f:=18) rfl ?_);refine goesL_ (some 56) rfl rfl Try.func18 (by kernel_rfl) rfl #[.pointer (some ⟨g,0,none⟩),I L 10] rfl Z20 ?_;(with_reducible refine (spec_l01Cur_pick.calls g s0_0 Oh Uh 10 Mc Xh Ji w0 _ ?side1 ?side2 A38.out).mono ?_);(case side1=>exact pS55_ HI0.out);(case side2=>exact pT55_ HB.out);rintro e w43 ⟨rfl,hi,hb,hk⟩;refine ⟨_,rfl,?_⟩;have n_:=an_ (Kd.R_mono (Kd.R_keep (IsS55.apart (show IsS55 w0 _ g s0_0 Oh Uh from pS55_ HI0.out) (pR_ Ka.out) (by decide)) hk (fun _ h=>h.2)) (fun _ h=>h.1))<|an_ (Kd.R_mono (Kd.R_keep (IsS55.apart (show IsS55 w0 _ g s0_0 Oh Uh from pS55_ HI0.out) (pR_ Kb.out) (by decide)) hk (fun _ h=>h.2)) (fun _ h=>h.1))<|an_ (KeepBut.blk hk (pk_ Ja.out) Od.out (by simp))<|an_ (KeepBut.trans (pK_ HK.out) hk (.inl rfl))<|an_ (hb)<|D (hi);clear Ka Kb Ja HK HB HI0;obtain ⟨Ka,Kb,Ja,HK,HB,HI0⟩:=n_;(try clear hb);(try clear hk);(try clear hi))|((with_reducible refine gate_callee (f:=37) rfl ?_);refine goesL_ (some 59) rfl rfl Try.func37 (by kernel_rfl) rfl #[.pointer (some ⟨g,0,none⟩),I L 9] rfl Z20 ?_;(with_reducible refine (spec_l01Cur_cost.calls g s0_0 Xh Ji 9 Xc Jd Ud Oi Ui w0 _ ?side1 ?side2 A39.out).mono ?_);(case side1=>exact pS55_ HI0.out);(case side2=>exact pT55_ HB.out);rintro e w44 ⟨rfl,hi,hb,hk⟩;refine ⟨_,rfl,?_⟩;have n_:=an_ (Kd.R_mono (Kd.R_keep (IsS55.apart (show IsS55 w0 _ g s0_0 Xh Ji from pS55_ HI0.out) (pR_ Ka.out) (by decide)) hk (fun _ h=>h.2)) (fun _ h=>h.1))<|an_ (Kd.R_mono (Kd.R_keep (IsS55.apart (show IsS55 w0 _ g s0_0 Xh Ji from pS55_ HI0.out) (pR_ Kb.out) (by decide)) hk (fun _ h=>h.2)) (fun _ h=>h.1))<|an_ (KeepBut.blk hk (pk_ Ja.out) Od.out (by simp))<|an_ (KeepBut.trans (pK_ HK.out) hk (.inl rfl))<|an_ (hb)<|D (hi);clear Ka Kb Ja HK HB HI0;obtain ⟨Ka,Kb,Ja,HK,HB,HI0⟩:=n_;(try clear hb);(try clear hk);(try clear hi);(try have:=Od.out);(try have:=Xf.out);have Ko:=cells7 Ja.out)|((with_reducible refine gate_builtin (b:=.append) (xs:=#[.tmp 85,.tmp 87]) rfl ?_);at_builtin;refine Kd.R_append k77 w.heap.size rfl (.tmp 85) (.tmp 87) 64 77 (.agg #[(I L 0),(I L 0),(I L 0),(I L 0),(I L 0),(I L 0),(.bool false)]) 56 rfl Try.underlying64 info77 rfl (by decide) (by omega) u5 x5_2 (⟨wrap64 (1 + Xb),Jc,wrap64 (1 + Mc),(⟨Xc,Jd,Ud⟩:S29),false⟩:S77) [I L (wrap64 (1 + Xb)),I L Jc,I L (wrap64 (1 + Mc)),I L Xc,I L Jd,I L Ud,.bool false] (fun k_=>k_≠Oa) (fun _=>False) rfl Z70 ?aP (fun _ hk=>hk.elim) ?aF ?aO (Below.refl _ _) ?aS ?aL ?_;(case aP=>exact k77_mkM _ _ _ (⟨wrap64 (1 + Xb),Jc,wrap64 (1 + Mc),(⟨Xc,Jd,Ud⟩:S29),false⟩:S77));(case aF=>exact (fun k_ hk=>Kd.freshB (g:=Oa) (o:=.cells #[I L (wrap64 (1 + Xb)),I L Jc,I L (wrap64 (1 + Mc)),I L Xc,I L Jd,I L Ud,.bool false] 77 (0,0)) Z1 k_ hk));(case aO=>exact (rM_ (Kd.R_mono Ka.out (fun k_ hk=>(⟨hk,hk.2⟩:_∧k_≠Oa))) (fun _ hk=>hk.1.2)));(case aS=>exact (keep_size (w:=w) (g:=g) (row:=none) (pK_ HK.out)));(case aL=>have:=LMc40.out;omega);intro Mz w47 ho hb hg hat;rw [← Ny537.out] at ho;have n_:=an_ (IsS55.grown (pU55_ HI0.out) hg (IsS55.own_ne HI0.out Ka.out (by decide)))<|an_ (Kd.R_over' (rM_ (Kd.R_types Kb.out Ja.out (by decide)) (fun _ h_=>h_.1)) (Kd.R_typed (rM_ (Kd.R_mono Ka.out (fun k_ hk=>(⟨hk,hk.2⟩:_∧k_≠Oa))) (fun _ h_=>h_.1))) (by decide) hg)<|an_ (blk_grown (g:=Oa) (o:=.cells #[I L (wrap64 (1 + Xb)),I L Jc,I L (wrap64 (1 + Mc)),I L Xc,I L Jd,I L Ud,.bool false] 77 (0,0)) Z1 hg (Kd.R_away Ka.out (fun _ hk=>hk.2)))<|an_ (below_weaken (pT55_ HB.out) HL.out hb)<|an_ (KeepBut.trans (pK_ HK.out) (KeepBut.of_grown hg g) (Kd.R_base2 Ka.out))<|D (ho);clear HI0 Kb Ja HB HK Ka;obtain ⟨HI0,Kb,Ja,HB,HK,Oq⟩:=n_;clear ho hb hg hat))
           go_roundg k2
           case measure => have := HK1.out; have := HK2.out; omega
           case rel=>exact ⟨(y537),(wrap64 (x8_2 - 1)),(Oi),(Ui),Z69,H',⟨by have:=HK1.out;have:=HK2.out;omega⟩,⟨pR_ (Kd.R_mono Oq.out (fun _ hk=>trivial))⟩,⟨pS55_ HI0.out⟩,⟨pK_ HK.out⟩,⟨pT55_ HB.out⟩⟩
          ·rw [if_neg c40] at H
           exact absurd H (by simp)
         ·rw [if_neg c35] at H
          have c35b0:(Ob == 0)=false:=beq_eq_false_iff_ne.mpr c35;have c35b1:(Ob != 0)=true:=bne_iff_ne.mpr c35;refine rw_ c35b0 ?_
          by_cases c48 : Ob = 1
          ·rw [if_pos c48] at H
           have c48b0:(Ob == 1)=true:=beq_iff_eq.mpr c48;have c48b1:(Ob != 1)=false:=bne_eq_false_iff_eq.mpr c48;clear c48;obtain ⟨⟨Kc,Xi,Jj⟩,A490,H⟩:=bs_.mp H;(try dsimp only at H);have A49:=D A490;clear A490
           by_cases c50 : x5_2.length < 2513169434916
           ·rw [if_pos c50] at H
            have LMc50 := D c50; clear c50; obtain ⟨y543, hy543⟩ : ∃ y_ : List (S77), y_ = (x5_2 ++ [(⟨3, Kc, 0, (⟨0, 0, 0⟩ : S29), false⟩ : S77)]) := ⟨_, rfl⟩
            replace H:(spec_l01Cur_acts.l1 k2 y543 Mb (wrap64 (x8_2 - 1)) s0_0 Xi Jj)=some (r1,r2,r3):=by first|(rw [hy543];with_reducible exact H)|(have H2_:=(Option.bind_some _ _).symm.trans H;rw [hy543];with_reducible exact H2_)|(have H2_:=(Option.bind_some _ _).symm.trans H;with_reducible exact H2_)|with_reducible exact H|(rw [hy543];exact H)|exact H
            have Ny543 := D hy543; clear hy543; have H' := D H; clear H
            go_wp2_with (first|((with_reducible refine gate_callee (f:=18) rfl ?_);refine goesL_ (some 64) rfl rfl Try.func18 (by kernel_rfl) rfl #[.pointer (some ⟨g,0,none⟩),I L 5] rfl Z20 ?_;(with_reducible refine (spec_l01Cur_pick.calls g s0_0 Oc Uc 5 Kc Xi Jj w0 _ ?side1 ?side2 A49.out).mono ?_);(case side1=>exact pS55_ HI0.out);(case side2=>exact pT55_ HB.out);rintro e w51 ⟨rfl,hi,hb,hk⟩;refine ⟨_,rfl,?_⟩;have n_:=an_ (Kd.R_mono (Kd.R_keep (IsS55.apart (show IsS55 w0 _ g s0_0 Oc Uc from pS55_ HI0.out) (pR_ Ka.out) (by decide)) hk (fun _ h=>h.2)) (fun _ h=>h.1))<|an_ (Kd.R_mono (Kd.R_keep (IsS55.apart (show IsS55 w0 _ g s0_0 Oc Uc from pS55_ HI0.out) (pR_ Kb.out) (by decide)) hk (fun _ h=>h.2)) (fun _ h=>h.1))<|an_ (KeepBut.blk hk (pk_ Ja.out) Od.out (by simp))<|an_ (KeepBut.trans (pK_ HK.out) hk (.inl rfl))<|an_ (hb)<|D (hi);clear Ka Kb Ja HK HB HI0;obtain ⟨Ka,Kb,Ja,HK,HB,HI0⟩:=n_;(try clear hb);(try clear hk);(try clear hi);(try have:=Od.out);(try have:=Xf.out);have Uq:=cells7 Ja.out)|((with_reducible refine gate_builtin (b:=.append) (xs:=#[.tmp 85,.tmp 87]) rfl ?_);at_builtin;refine Kd.R_append k77 w.heap.size rfl (.tmp 85) (.tmp 87) 64 77 (.agg #[(I L 0),(I L 0),(I L 0),(I L 0),(I L 0),(I L 0),(.bool false)]) 56 rfl Try.underlying64 info77 rfl (by decide) (by omega) u5 x5_2 (⟨3,Kc,0,(⟨0,0,0⟩:S29),false⟩:S77) [I L 3,I L Kc,I L 0,I L 0,I L 0,I L 0,.bool false] (fun k_=>k_≠Oa) (fun _=>False) rfl Z70 ?aP (fun _ hk=>hk.elim) ?aF ?aO (Below.refl _ _) ?aS ?aL ?_;(case aP=>exact k77_mkM _ _ _ (⟨3,Kc,0,(⟨0,0,0⟩:S29),false⟩:S77));(case aF=>exact (fun k_ hk=>Kd.freshB (g:=Oa) (o:=.cells #[I L 3,I L Kc,I L 0,I L 0,I L 0,I L 0,.bool false] 77 (0,0)) Z3 k_ hk));(case aO=>exact (rM_ (Kd.R_mono Ka.out (fun k_ hk=>(⟨hk,hk.2⟩:_∧k_≠Oa))) (fun _ hk=>hk.1.2)));(case aS=>exact (keep_size (w:=w) (g:=g) (row:=none) (pK_ HK.out)));(case aL=>have:=LMc50.out;omega);intro Oz w54 ho hb hg hat;rw [← Ny543.out] at ho;have n_:=an_ (IsS55.grown (pU55_ HI0.out) hg (IsS55.own_ne HI0.out Ka.out (by decide)))<|an_ (Kd.R_over' (rM_ (Kd.R_types Kb.out Ja.out (by decide)) (fun _ h_=>h_.1)) (Kd.R_typed (rM_ (Kd.R_mono Ka.out (fun k_ hk=>(⟨hk,hk.2⟩:_∧k_≠Oa))) (fun _ h_=>h_.1))) (by decide) hg)<|an_ (blk_grown (g:=Oa) (o:=.cells #[I L 3,I L Kc,I L 0,I L 0,I L 0,I L 0,.bool false] 77 (0,0)) Z3 hg (Kd.R_away Ka.out (fun _ hk=>hk.2)))<|an_ (below_weaken (pT55_ HB.out) HL.out hb)<|an_ (KeepBut.trans (pK_ HK.out) (KeepBut.of_grown hg g) (Kd.R_base2 Ka.out))<|D (ho);clear HI0 Kb Ja HB HK Ka;obtain ⟨HI0,Kb,Ja,HB,HK,Ju⟩:=n_;clear ho hb hg hat))
            go_roundg k2
            case measure => have := HK1.out; have := HK2.out; omega
            case rel=>exact ⟨(y543),(wrap64 (x8_2 - 1)),(Xi),(Jj),Z69,H',⟨by have:=HK1.out;have:=HK2.out;omega⟩,⟨pR_ (Kd.R_mono Ju.out (fun _ hk=>trivial))⟩,⟨pS55_ HI0.out⟩,⟨pK_ HK.out⟩,⟨pT55_ HB.out⟩⟩
           ·rw [if_neg c50] at H
            exact absurd H (by simp)
          ·rw [if_neg c48] at H
           have c48b0 : (Ob == 1) = false := beq_eq_false_iff_ne.mpr c48; have c48b1 : (Ob != 1) = true := bne_iff_ne.mpr c48
           by_cases c55 : Ob = 2
           ·rw [if_pos c55] at H
            have c55b0 : (Ob == 2) = true := beq_iff_eq.mpr c55; have c55b1 : (Ob != 2) = false := bne_eq_false_iff_eq.mpr c55; clear c55
            by_cases c56 : x5_2.length < 2513169434916
            ·rw [if_pos c56] at H
             have LMc56 := D c56; clear c56; obtain ⟨y546, hy546⟩ : ∃ y_ : List (S77), y_ = (x5_2 ++ [(⟨6, 0, 0, (⟨0, 0, 0⟩ : S29), false⟩ : S77)]) := ⟨_, rfl⟩
             replace H:(spec_l01Cur_acts.l1 k2 y546 Mb (wrap64 (x8_2 - 1)) s0_0 Oc Uc)=some (r1,r2,r3):=by first|(rw [hy546];with_reducible exact H)|(have H2_:=(Option.bind_some _ _).symm.trans H;rw [hy546];with_reducible exact H2_)|(have H2_:=(Option.bind_some _ _).symm.trans H;with_reducible exact H2_)|with_reducible exact H|(rw [hy546];exact H)|exact H
             have Ny546:=D hy546;clear hy546;have H':=D H;clear H;(try have:=Od.out);(try have:=Xf.out);have Ku:=cells7 Ja.out
             go_wp2_with (first|((with_reducible refine gate_builtin (b:=.append) (xs:=#[.tmp 85,.tmp 87]) rfl ?_);at_builtin;refine Kd.R_append k77 w.heap.size rfl (.tmp 85) (.tmp 87) 64 77 (.agg #[(I L 0),(I L 0),(I L 0),(I L 0),(I L 0),(I L 0),(.bool false)]) 56 rfl Try.underlying64 info77 rfl (by decide) (by omega) u5 x5_2 (⟨6,0,0,(⟨0,0,0⟩:S29),false⟩:S77) [I L 6,I L 0,I L 0,I L 0,I L 0,I L 0,.bool false] (fun k_=>k_≠Oa) (fun _=>False) rfl Z70 ?aP (fun _ hk=>hk.elim) ?aF ?aO (Below.refl _ _) ?aS ?aL ?_;(case aP=>exact k77_mkM _ _ _ (⟨6,0,0,(⟨0,0,0⟩:S29),false⟩:S77));(case aF=>exact (fun k_ hk=>Kd.freshB (g:=Oa) (o:=.cells #[I L 6,I L 0,I L 0,I L 0,I L 0,I L 0,.bool false] 77 (0,0)) Z4 k_ hk));(case aO=>exact (rM_ (Kd.R_mono Ka.out (fun k_ hk=>(⟨hk,hk.2⟩:_∧k_≠Oa))) (fun _ hk=>hk.1.2)));(case aS=>exact (keep_size (w:=w) (g:=g) (row:=none) (pK_ HK.out)));(case aL=>have:=LMc56.out;omega);intro Uz w59 ho hb hg hat;rw [← Ny546.out] at ho;have n_:=an_ (IsS55.grown (pU55_ HI0.out) hg (IsS55.own_ne HI0.out Ka.out (by decide)))<|an_ (Kd.R_over' (rM_ (Kd.R_types Kb.out Ja.out (by decide)) (fun _ h_=>h_.1)) (Kd.R_typed (rM_ (Kd.R_mono Ka.out (fun k_ hk=>(⟨hk,hk.2⟩:_∧k_≠Oa))) (fun _ h_=>h_.1))) (by decide) hg)<|an_ (blk_grown (g:=Oa) (o:=.cells #[I L 6,I L 0,I L 0,I L 0,I L 0,I L 0,.bool false] 77 (0,0)) Z4 hg (Kd.R_away Ka.out (fun _ hk=>hk.2)))<|an_ (below_weaken (pT55_ HB.out) HL.out hb)<|an_ (KeepBut.trans (pK_ HK.out) (KeepBut.of_grown hg g) (Kd.R_base2 Ka.out))<|D (ho);clear HI0 Kb Ja HB HK Ka;obtain ⟨HI0,Kb,Ja,HB,HK,Ox⟩:=n_;clear ho hb hg hat))
             go_roundg k2
             case measure => have := HK1.out; have := HK2.out; omega
             case rel=>exact ⟨(y546),(wrap64 (x8_2 - 1)),(Oc),(Uc),Z69,H',⟨by have:=HK1.out;have:=HK2.out;omega⟩,⟨pR_ (Kd.R_mono Ox.out (fun _ hk=>trivial))⟩,⟨pS55_ HI0.out⟩,⟨pK_ HK.out⟩,⟨pT55_ HB.out⟩⟩
            ·rw [if_neg c56] at H
             exact absurd H (by simp)
           ·rw [if_neg c55] at H
            have c55b0 : (Ob == 2) = false := beq_eq_false_iff_ne.mpr c55; have c55b1 : (Ob != 2) = true := bne_iff_ne.mpr c55; have HC60 := D H; clear H
            go_upto_if 69 with (fail)
            go_cut [69] (fun v69 wc=>∃ (kq:Nat) (Ki:Bool),v69=.bool Ki∧Aside0 (spec_l01Cur_acts.j2 kq x5_2 Mb x8_2 Ki s0_0 Oc Uc 5 0 0 Jb Xa Ua (!Ma)=some (r1,r2,r3))∧Aside0 (kq≤k2)∧Aside0 (Kd.R k77 77 wc w.heap.size (fun k_=>k_≠Oa) u5 x5_2)∧Aside0 (wc.heap[Oa]?=some (.cells #[I L 5,I L 0,I L 0,I L Jb,I L Xa,I L Ua,.bool (!Ma)] 77 (0,0)))∧Aside0 (IsS55 w0 wc g s0_0 Oc Uc)∧Aside0 (KeepBut w wc g none)∧Aside0 (Below w0.heap.size w0 wc))
            case first =>
             have H := HC60.out; clear HC60
             by_cases c61 : Ob = 3
             ·rw [if_pos c61] at H
              have c61b0:(Ob == 3)=true:=beq_iff_eq.mpr c61;have c61b1:(Ob != 3)=false:=bne_eq_false_iff_eq.mpr c61;clear c61;refine rw_ c61b0 ?_;have H':=D H;clear H
              go_wp2
              go_meet
              case rel=>exact ⟨_,((Ob == 3)),Z69,H',⟨by have:=HK1.out;have:=HK2.out;first|omega|exact Nat.le_refl _⟩,⟨pR_ (Kd.R_mono Ka.out (fun _ hk=>hk.2))⟩,⟨pk_ Ja.out⟩,⟨pS55_ HI0.out⟩,⟨pK_ HK.out⟩,⟨pT55_ HB.out⟩⟩
             ·rw [if_neg c61] at H
              have c61b0:(Ob == 3)=false:=beq_eq_false_iff_ne.mpr c61;have c61b1:(Ob != 3)=true:=bne_iff_ne.mpr c61;refine rw_ c61b0 ?_
              by_cases c62 : Ob = 4
              ·rw [if_pos c62] at H
               have c62b0 : (Ob == 4) = true := beq_iff_eq.mpr c62; have c62b1 : (Ob != 4) = false := bne_eq_false_iff_eq.mpr c62; clear c62; have H' := D H; clear H
               go_wp2
               go_meet
               case rel=>exact ⟨_,((Ob == 4)),Z69,H',⟨by have:=HK1.out;have:=HK2.out;first|omega|exact Nat.le_refl _⟩,⟨pR_ (Kd.R_mono Ka.out (fun _ hk=>hk.2))⟩,⟨pk_ Ja.out⟩,⟨pS55_ HI0.out⟩,⟨pK_ HK.out⟩,⟨pT55_ HB.out⟩⟩
              ·rw [if_neg c62] at H
               have c62b0 : (Ob == 4) = false := beq_eq_false_iff_ne.mpr c62; have c62b1 : (Ob != 4) = true := bne_iff_ne.mpr c62; have H' := D H; clear H
               go_wp2
               go_meet
               case rel=>exact ⟨_,((Ob == 5)),Z69,H',⟨by have:=HK1.out;have:=HK2.out;first|omega|exact Nat.le_refl _⟩,⟨pR_ (Kd.R_mono Ka.out (fun _ hk=>hk.2))⟩,⟨pk_ Ja.out⟩,⟨pS55_ HI0.out⟩,⟨pK_ HK.out⟩,⟨pT55_ HB.out⟩⟩
            case rest =>
             clear HC60
             (try clear c1);(try clear c2);(try clear p2);(try clear c3);(try clear c4);(try clear c5);(try clear p5);(try clear q5);(try clear hx5);(try clear c6);(try clear p6);(try clear c7);(try clear c7b0);(try clear c9);(try clear c17);(try clear c17b0);(try clear c18);(try clear c19);(try clear c19b0);(try clear c20);(try clear c20b0);(try clear c31);(try clear c32);(try clear c35);(try clear c35b0);(try clear c35b1);(try clear c36);(try clear c37);(try clear c40);(try clear c45);(try clear c48);(try clear c48b0);(try clear c48b1);(try clear c50);(try clear p51);(try clear q51);(try clear hx51);(try clear c52);(try clear c55);(try clear c55b0);(try clear c55b1);(try clear c56);(try clear c57);(try clear c61);(try clear c61b0);(try clear c61b1);(try clear c62);(try clear c62b0);(try clear c62b1);(try clear Xk);(try clear Ko);(try clear Uq);(try clear Ku);(try clear hx510_0);(try clear p2);(try clear p510);(try clear p6);(try clear q510)
             obtain ⟨kq, Ki, rfl, HA, HJ59, Ka, Ja, HI0, HK, HB⟩ := hcut
             cases kq with
             | zero => exact absurd HA.out (by simp [spec_l01Cur_acts.j2])
             | succ kj59 =>
              have H := HA.out; clear HA; simp only [spec_l01Cur_acts.j2] at H
              by_cases c63 : Ki = true
              ·subst c63
               rw [if_pos rfl] at H;obtain ⟨Me,A640,H⟩:=bs_.mp H;(try dsimp only at H);have A64:=D A640;clear A640;obtain ⟨Mi,A650,H⟩:=bs_.mp H;(try dsimp only at H);have A65:=D A650;clear A650
               by_cases c66 : 0 ≤ Mb
               ·rw [if_pos c66] at H
                have c66b0 : decide (0 ≤ Mb) = true := decide_eq_true c66; clear c66
                by_cases c67 : Mb < (Me.length : Int)
                ·rw [if_pos c67] at H
                 have c67b0 : decide (Mb < (Me.length : Int)) = true := decide_eq_true c67; clear c67; obtain ⟨y553, hy553⟩ : ∃ y_ : List Int, y_ = (Me.set (Mb : Int).toNat Mi) := ⟨_, rfl⟩
                 replace H:((spec_l13Of.f y553).bind fun bt554=>(if x5_2.length < 2513169434916 then (spec_l01Cur_acts.l1 kj59 (x5_2 ++ [(⟨5,0,0,(⟨bt554.1,bt554.2.1,bt554.2.2⟩:S29),(!Ma)⟩:S77)]) Mb (wrap64 (x8_2 - 1)) s0_0 Oc Uc) else (none)))=some (r1,r2,r3):=by first|(rw [hy553];with_reducible exact H)|(have H2_:=(Option.bind_some _ _).symm.trans H;rw [hy553];with_reducible exact H2_)|(have H2_:=(Option.bind_some _ _).symm.trans H;with_reducible exact H2_)|with_reducible exact H|(rw [hy553];exact H)|exact H
                 have Ny553 := D hy553; clear hy553; obtain ⟨⟨Md, Xd, Ke⟩, A690, H⟩ := bs_.mp H; (try dsimp only at H); have A69 := D A690; clear A690
                 by_cases c70 : x5_2.length < 2513169434916
                 ·rw [if_pos c70] at H
                  have LMc70 := D c70; clear c70; obtain ⟨y557, hy557⟩ : ∃ y_ : List (S77), y_ = (x5_2 ++ [(⟨5, 0, 0, (⟨Md, Xd, Ke⟩ : S29), (!Ma)⟩ : S77)]) := ⟨_, rfl⟩
                  replace H:(spec_l01Cur_acts.l1 kj59 y557 Mb (wrap64 (x8_2 - 1)) s0_0 Oc Uc)=some (r1,r2,r3):=by first|(rw [hy557];with_reducible exact H)|(have H2_:=(Option.bind_some _ _).symm.trans H;rw [hy557];with_reducible exact H2_)|(have H2_:=(Option.bind_some _ _).symm.trans H;with_reducible exact H2_)|with_reducible exact H|(rw [hy557];exact H)|exact H
                  have Ny557:=D hy557;clear hy557;have H':=D H;clear H;(try have:=Od.out);(try have:=Xf.out);have Xz:=cells7 Ja.out
                  go_wp2_with (first|((with_reducible refine gate_callee (f:=46) rfl ?_);refine goesL_ (some 75) rfl rfl Try.func46 (by kernel_rfl) rfl #[.agg #[I L Jb,I L Xa,I L Ua]] rfl Z20 ?_;(with_reducible refine (spec_l13List.calls Jb Xa Ua Me _ A64.out).mono ?_);rintro e w73 ⟨Kc1,rfl,ho0,hb⟩;refine ⟨_,rfl,?_⟩;have n_:=an_ (Kd.R_below (pR_ Ka.out) hb)<|an_ (Kd.R_lower ho0 (keep_size (w:=w) (g:=g) (row:=none) (pK_ HK.out)))<|an_ (blk_below (pk_ Ja.out) hb)<|an_ (IsS55.below (pU55_ HI0.out) hb)<|an_ (KeepBut.trans (pK_ HK.out) (KeepBut.of_below hb g none) (.inl rfl))<|D (below_step (pT55_ HB.out) hb);clear Ka Ja HI0 HK HB;obtain ⟨Ka,Ub,Ja,HI0,HK,HB⟩:=n_;(try clear hb);(try clear ho0);have Mc1:=cells7 Ja.out)|((with_reducible refine gate_callee (f:=47) rfl ?_);refine goesL_ (some 80) rfl rfl Try.func47 (by kernel_rfl) rfl #[.agg #[I L Jb,I L Xa,I L Ua]] rfl Z20 ?_;(with_reducible refine (spec_VecTop.calls Jb Xa Ua Mi _ A65.out).mono ?_);rintro e w75 ⟨rfl,hb⟩;refine ⟨_,rfl,?_⟩;have n_:=an_ (Kd.R_below (pR_ Ka.out) hb)<|an_ (Kd.R_below (pR_ Ub.out) hb)<|an_ (blk_below (pk_ Ja.out) hb)<|an_ (IsS55.below (pU55_ HI0.out) hb)<|an_ (KeepBut.trans (pK_ HK.out) (KeepBut.of_below hb g none) (.inl rfl))<|D (below_step (pT55_ HB.out) hb);clear Ka Ub Ja HI0 HK HB;obtain ⟨Ka,Ub,Ja,HI0,HK,HB⟩:=n_;(try clear hb);have p68:0≤(Mb:Int):=od_ Z68;have q68:(Mb:Int) < ((Me.length:Int):Int):=od_ Z68;obtain ⟨go68,Kj,eo68,Kk,gl68,cl68,HG68⟩:=Kd.R_form Ub.out (by omega);(first|cases eo68|(injection eo68 with ea_ en_ ec_;(first|subst ea_|(injection ea_ with ea_;subst ea_));subst ec_;clear en_));have GB68:=D Kk;have GG68:=D HG68;clear Kk gl68 HG68;obtain ⟨hx68_0,hf68_0⟩:=Kd.R_celln 0 Ub.out (Mb:Int) p68 q68;replace p68:=eq_true p68;replace q68:=eq_true q68;obtain ⟨hy76_,hz76_⟩:=Kd.R_celln 0 Ub.out (Mb:Int) (od_ Z68) (od_ Z68);have HP76:=Kd.R_putg Ub.out (Mb:Int) Mi)|((with_reducible refine gate_store (t:=3) (p:=81) rfl ?_);refine store_event (t:=3) (p:=81) (v:=?vo_w77) (w1:=(w75.setCell ⟨go68,(Mb:Int).toNat,none⟩ (I L Mi))) ?hg ?ho ?hn ?hr ?_;(case ho=>rfl);(case hg=>rfl);(case hn=>rfl);(case hr=>first|(go_simp;done)|(go_simp;rfl));intro w77 hw;have hg:w75.grownBy w77 (some go68):=(by rw [hw];exact HP76.2);have hp_:Kd.R (Kd.int .i64) 3 w77 w.heap.size (fun _=>True) (Y (some ⟨go68,0,none⟩) Me.length Kj) y553:=(by rw [hw,Ny553.out];exact HP76.1);clear HP76;have n_:=an_ (Kd.R_over' (v:=(Y (some ⟨go68,0,none⟩) Me.length Kj)) (pR_ Ka.out) (Kd.R_typed Ub.out) (by decide) hg)<|an_ (blk_grown (pk_ Ja.out) hg (Kd.R_ne Ub.out Ja.out (by decide)))<|an_ (IsS55.grown (pU55_ HI0.out) hg (IsS55.own_ne HI0.out Ub.out (by decide)))<|an_ (hp_)<|an_ ((by rw [hw];exact below_set (HB.out) (Nat.le_trans HL.out GB68.out):Below w0.heap.size w0 w77))<|D (KeepBut.trans (pK_ HK.out) (KeepBut.of_grown hg g) (Kd.R_base2 Ub.out));clear Ka Ja HI0 Ub HB HK;obtain ⟨Ka,Ja,HI0,Ub,HB,HK⟩:=n_;clear hg hw hp_)|((with_reducible refine gate_callee (f:=61) rfl ?_);refine goesL_ (some 83) rfl rfl Try.func61 (by kernel_rfl) rfl #[Y (some ⟨go68,0,none⟩) y553.length Kj] rfl (by (try simp only [List.map_toArray,List.map_cons,List.map_nil]);first|done|(rw [show y553.length=Me.length from (Kd.R_reads' Ub.out).1.symm] <;> rfl)|rfl|(simp only [List.length_drop,List.length_take];rfl)) ?_;(with_reducible refine (spec_l13Of.calls _ _ y553 Md Xd Ke _ ?side1 ?side2 A69.out).mono ?_);(case side1=>exact pC_ ((Kd.R_reads' Ub.out).2.2));(case side2=>rw [show y553.length=Me.length from (Kd.R_reads' Ub.out).1.symm];exact (Kd.R_reads' Ub.out).2.1);rintro e w78 ⟨rfl,hb⟩;refine ⟨_,rfl,?_⟩;have n_:=an_ (Kd.R_below (pR_ Ka.out) hb)<|an_ (Kd.R_below (pR_ Ub.out) hb)<|an_ (blk_below (pk_ Ja.out) hb)<|an_ (IsS55.below (pU55_ HI0.out) hb)<|an_ (KeepBut.trans (pK_ HK.out) (KeepBut.of_below hb g none) (.inl rfl))<|D (below_step (pT55_ HB.out) hb);clear Ka Ub Ja HI0 HK HB;obtain ⟨Ka,Ub,Ja,HI0,HK,HB⟩:=n_;(try clear hb);have Ue1:=cells7 Ja.out)|((with_reducible refine gate_builtin (b:=.append) (xs:=#[.tmp 85,.tmp 87]) rfl ?_);at_builtin;refine Kd.R_append k77 w.heap.size rfl (.tmp 85) (.tmp 87) 64 77 (.agg #[(I L 0),(I L 0),(I L 0),(I L 0),(I L 0),(I L 0),(.bool false)]) 56 rfl Try.underlying64 info77 rfl (by decide) (by omega) u5 x5_2 (⟨5,0,0,(⟨Md,Xd,Ke⟩:S29),(!Ma)⟩:S77) [I L 5,I L 0,I L 0,I L Md,I L Xd,I L Ke,.bool (!Ma)] (fun k_=>k_≠Oa) (fun _=>False) rfl Z70 ?aP (fun _ hk=>hk.elim) ?aF ?aO (Below.refl _ _) ?aS ?aL ?_;(case aP=>exact k77_mkM _ _ _ (⟨5,0,0,(⟨Md,Xd,Ke⟩:S29),(!Ma)⟩:S77));(case aF=>exact (fun k_ hk=>Kd.freshB (g:=Oa) (o:=.cells #[I L 5,I L 0,I L 0,I L Md,I L Xd,I L Ke,.bool (!Ma)] 77 (0,0)) Z11 k_ hk));(case aO=>exact (rM_ (Kd.R_mono Ka.out (fun k_ hk=>(⟨hk,hk⟩:_∧k_≠Oa))) (fun _ hk=>hk.1)));(case aS=>exact (keep_size (w:=w) (g:=g) (row:=none) (pK_ HK.out)));(case aL=>have:=LMc70.out;omega);intro Jh1 w80 ho hb hg hat;rw [← Ny557.out] at ho;have n_:=an_ (blk_grown (g:=Oa) (o:=.cells #[I L 5,I L 0,I L 0,I L Md,I L Xd,I L Ke,.bool (!Ma)] 77 (0,0)) Z11 hg (Kd.R_away Ka.out (fun _ hk=>hk)))<|an_ (IsS55.grown (pU55_ HI0.out) hg (IsS55.own_ne HI0.out Ka.out (by decide)))<|an_ (Kd.R_over' (rM_ (Kd.R_types Ub.out Ja.out (by decide)) (fun _ h_=>h_.1)) (Kd.R_typed (rM_ (Kd.R_mono Ka.out (fun k_ hk=>(⟨hk,hk⟩:_∧k_≠Oa))) (fun _ h_=>h_.1))) (by decide) hg)<|an_ (below_weaken (pT55_ HB.out) HL.out hb)<|an_ (KeepBut.trans (pK_ HK.out) (KeepBut.of_grown hg g) (Kd.R_base2 Ka.out))<|D (ho);clear Ja HI0 Ub HB HK Ka;obtain ⟨Ja,HI0,Ub,HB,HK,Ux⟩:=n_;clear ho hb hg hat))
                  go_roundg kj59
                  case measure => have := HK1.out; have := HK2.out; have := HJ59.out; omega
                  case rel=>exact ⟨(y557),(wrap64 (x8_2 - 1)),(Oc),(Uc),Z69,H',⟨by have:=HK1.out;have:=HK2.out;have:=HJ59.out;omega⟩,⟨pR_ (Kd.R_mono Ux.out (fun _ hk=>trivial))⟩,⟨pS55_ HI0.out⟩,⟨pK_ HK.out⟩,⟨pT55_ HB.out⟩⟩
                 ·rw [if_neg c70] at H
                  exact absurd H (by simp)
                ·rw [if_neg c67] at H
                 exact absurd H (by simp)
               ·rw [if_neg c66] at H
                exact absurd H (by simp)
              ·replace c63 := Bool.eq_false_iff.mpr c63
               subst c63; rw [if_neg (show ¬ (false = true) by decide)] at H
               by_cases c81 : x5_2.length < 2513169434916
               ·rw [if_pos c81] at H
                have LMc81 := D c81; clear c81; obtain ⟨y560, hy560⟩ : ∃ y_ : List (S77), y_ = (x5_2 ++ [(⟨5, 0, 0, (⟨Jb, Xa, Ua⟩ : S29), (!Ma)⟩ : S77)]) := ⟨_, rfl⟩
                replace H:(spec_l01Cur_acts.l1 kj59 y560 Mb (wrap64 (x8_2 - 1)) s0_0 Oc Uc)=some (r1,r2,r3):=by first|(rw [hy560];with_reducible exact H)|(have H2_:=(Option.bind_some _ _).symm.trans H;rw [hy560];with_reducible exact H2_)|(have H2_:=(Option.bind_some _ _).symm.trans H;with_reducible exact H2_)|with_reducible exact H|(rw [hy560];exact H)|exact H
                have Ny560:=D hy560;clear hy560;have H':=D H;clear H;(try have:=Od.out);(try have:=Xf.out);have Kh1:=cells7 Ja.out
                go_wp2_with (first|((with_reducible refine gate_builtin (b:=.append) (xs:=#[.tmp 85,.tmp 87]) rfl ?_);at_builtin;refine Kd.R_append k77 w.heap.size rfl (.tmp 85) (.tmp 87) 64 77 (.agg #[(I L 0),(I L 0),(I L 0),(I L 0),(I L 0),(I L 0),(.bool false)]) 56 rfl Try.underlying64 info77 rfl (by decide) (by omega) u5 x5_2 (⟨5,0,0,(⟨Jb,Xa,Ua⟩:S29),(!Ma)⟩:S77) [I L 5,I L 0,I L 0,I L Jb,I L Xa,I L Ua,.bool (!Ma)] (fun k_=>k_≠Oa) (fun _=>False) rfl rfl ?aP (fun _ hk=>hk.elim) ?aF ?aO (Below.refl _ _) ?aS ?aL ?_;(case aP=>exact k77_mkM _ _ _ (⟨5,0,0,(⟨Jb,Xa,Ua⟩:S29),(!Ma)⟩:S77));(case aF=>exact (fun k_ hk=>Kd.freshB (pk_ Ja.out) k_ hk));(case aO=>exact (pR_ Ka.out));(case aS=>exact (keep_size (w:=w) (g:=g) (row:=none) (pK_ HK.out)));(case aL=>have:=LMc81.out;omega);intro Oj1 w84 ho hb hg hat;rw [← Ny560.out] at ho;have n_:=an_ (blk_grown (pk_ Ja.out) hg (Kd.R_away Ka.out (fun _ hk=>hk)))<|an_ (IsS55.grown (pU55_ HI0.out) hg (IsS55.own_ne HI0.out Ka.out (by decide)))<|an_ (below_weaken (pT55_ HB.out) HL.out hb)<|an_ (KeepBut.trans (pK_ HK.out) (KeepBut.of_grown hg g) (Kd.R_base2 Ka.out))<|D (ho);clear Ja HI0 HB HK Ka;obtain ⟨Ja,HI0,HB,HK,Xx⟩:=n_;clear ho hb hg hat))
                go_roundg kj59
                case measure => have := HK1.out; have := HK2.out; have := HJ59.out; omega
                case rel=>exact ⟨(y560),(wrap64 (x8_2 - 1)),(Oc),(Uc),Z69,H',⟨by have:=HK1.out;have:=HK2.out;have:=HJ59.out;omega⟩,⟨pR_ (Kd.R_mono Xx.out (fun _ hk=>trivial))⟩,⟨pS55_ HI0.out⟩,⟨pK_ HK.out⟩,⟨pT55_ HB.out⟩⟩
               ·rw [if_neg c81] at H
                exact absurd H (by simp)
        ·rw [if_neg c20] at H
         exact absurd H (by simp)
       ·rw [if_neg c19] at H
        exact absurd H (by simp)
      ·rw [if_neg c17] at H
       have c17b0 : decide (0 < x8_2) = false := decide_eq_false c17; clear c17; simp only [Option.some.injEq, Prod.mk.injEq] at H; obtain ⟨rfl, rfl, rfl⟩ := H
       go_wp2
       go_ret;exact ⟨_,er_,by (with_reducible repeat (first|apply Kd.R_alloc|apply Kd.R_drewN|apply Kd.R_drew));exact Ka.out,pS55_ HI0.out,pT55_ HB.out,pK_ HK.out⟩

/-! ### spec_l01Cur_raw: function 39 -/
def spec_l01Cur_raw.f (s0_0 : List Int) (s0_1 s0_2 : Int) : Option (Int × Int × Int) := (spec_l01Cur_pick.f s0_0 s0_1 s0_2 8).bind fun bt563 => (if bt563.1 = 0 then ((spec_l01Cur_pick.f s0_0 bt563.2.1 bt563.2.2 256).bind fun bt566 => (some (wrap64 (bt566.1 - 128), bt566.2.1, bt566.2.2))) else (if bt563.1 = 1 then ((some (([9223372036854775807, (-9223372036854775808), 4611686018427387904, 65535, 65536, (-1000), 4294967295, 4294967296] : List Int) : List Int)).bind fun y569 => ((spec_l01Cur_pick.f s0_0 bt563.2.1 bt563.2.2 8).bind fun bt572 => (if 0 ≤ bt572.1 then (if bt572.1 < (y569.length : Int) then (some (rd y569 bt572.1, bt572.2.1, bt572.2.2)) else (none)) else (none)))) else ((spec_l01Cur_pick.f s0_0 bt563.2.1 bt563.2.2 14).bind fun bt576 => (some (wrap64 (bt576.1 - 3), bt576.2.1, bt576.2.2)))))
set_option maxHeartbeats 8000000 in
set_option maxRecDepth 100000 in
theorem spec_l01Cur_raw.calls (g : Nat) (s0_0 : List Int) (s0_1 s0_2 r1 r2 r3 : Int) (w0 w : World) (hI : IsS55 w0 w g s0_0 s0_1 s0_2) (hB : Below w0.heap.size w0 w) (h : spec_l01Cur_raw.f s0_0 s0_1 s0_2 = some (r1, r2, r3)) :
  Calls Try.prog 39 #[.pointer (some ⟨g, 0, none⟩)] w fun e w' => e = .returned (I L r1) ∧ IsS55 w0 w' g s0_0 r2 r3 ∧ Below w0.heap.size w0 w' ∧ KeepBut w w' g none := by
 have HI0 := D hI
 have HK := D (KeepBut.refl w g none)
 have HL := D hB.size
 clear hI
 have HW0 := D hB.size
 have HB := D hB
 clear hB
 have H:((spec_l01Cur_pick.f s0_0 s0_1 s0_2 8).bind fun bt563=>(if bt563.1=0 then ((spec_l01Cur_pick.f s0_0 bt563.2.1 bt563.2.2 256).bind fun bt566=>(some (wrap64 (bt566.1 - 128),bt566.2.1,bt566.2.2))) else (if bt563.1=1 then ((some (([9223372036854775807,(-9223372036854775808),4611686018427387904,65535,65536,(-1000),4294967295,4294967296]:List Int):List Int)).bind fun y569=>((spec_l01Cur_pick.f s0_0 bt563.2.1 bt563.2.2 8).bind fun bt572=>(if 0≤bt572.1 then (if bt572.1 < (y569.length:Int) then (some (rd y569 bt572.1,bt572.2.1,bt572.2.2)) else (none)) else (none)))) else ((spec_l01Cur_pick.f s0_0 bt563.2.1 bt563.2.2 14).bind fun bt576=>(some (wrap64 (bt576.1 - 3),bt576.2.1,bt576.2.2))))))=some (r1,r2,r3):=h
 clear h
 obtain ⟨⟨t563, t564, t565⟩, A20, H⟩ := bs_.mp H
 (try dsimp only at H)
 have A2 := D A20
 clear A20
 have HU3 := D H
 clear H
 go_enter Try.func39, Try.ntmps39
 go_upto_if 5 with (first|((with_reducible refine gate_callee (f:=18) rfl ?_);refine goesL_ (some 4) rfl rfl Try.func18 (by kernel_rfl) rfl #[.pointer (some ⟨g,0,none⟩),I L 8] rfl Z20 ?_;(with_reducible refine (spec_l01Cur_pick.calls g s0_0 s0_1 s0_2 8 t563 t564 t565 w0 _ ?side1 ?side2 A2.out).mono ?_);(case side1=>exact pS55_ HI0.out);(case side2=>exact pT55_ HB.out);rintro e w4 ⟨rfl,hi,hb,hk⟩;refine ⟨_,rfl,?_⟩;have n_:=an_ (KeepBut.trans (pK_ HK.out) hk (.inl rfl))<|an_ (hb)<|D (hi);clear HK HB HI0;obtain ⟨HK,HB,HI0⟩:=n_;(try clear hb);(try clear hk);(try clear hi)))
 have H := HU3.out
 clear HU3
 by_cases c5 : t563 = 0
 ·rw [if_pos c5] at H
  have c5b0:(t563 == 0)=true:=beq_iff_eq.mpr c5;have c5b1:(t563 != 0)=false:=bne_eq_false_iff_eq.mpr c5;clear c5;refine rw_ c5b0 ?_;obtain ⟨⟨t566,t567,t568⟩,A60,H⟩:=bs_.mp H;(try dsimp only at H);have A6:=D A60;clear A60;simp only [Option.some.injEq,Prod.mk.injEq] at H;obtain ⟨rfl,rfl,rfl⟩:=H
  go_wp2_with (first|((with_reducible refine gate_callee (f:=18) rfl ?_);refine goesL_ (some 8) rfl rfl Try.func18 (by kernel_rfl) rfl #[.pointer (some ⟨g,0,none⟩),I L 256] rfl Z20 ?_;(with_reducible refine (spec_l01Cur_pick.calls g s0_0 t564 t565 256 t566 t567 t568 w0 _ ?side1 ?side2 A6.out).mono ?_);(case side1=>exact pS55_ HI0.out);(case side2=>exact pT55_ HB.out);rintro e w7 ⟨rfl,hi,hb,hk⟩;refine ⟨_,rfl,?_⟩;have n_:=an_ (KeepBut.trans (pK_ HK.out) hk (.inl rfl))<|an_ (hb)<|D (hi);clear HK HB HI0;obtain ⟨HK,HB,HI0⟩:=n_;(try clear hb);(try clear hk);(try clear hi)))
  go_ret; exact ⟨er_, pS55_ HI0.out, pT55_ HB.out, pK_ HK.out⟩
 ·rw [if_neg c5] at H
  have c5b0:(t563 == 0)=false:=beq_eq_false_iff_ne.mpr c5;have c5b1:(t563 != 0)=true:=bne_iff_ne.mpr c5;refine rw_ c5b0 ?_
  by_cases c8 : t563 = 1
  ·rw [if_pos c8] at H
   have c8b0:(t563 == 1)=true:=beq_iff_eq.mpr c8;have c8b1:(t563 != 1)=false:=bne_eq_false_iff_eq.mpr c8;clear c8;obtain ⟨y569,hy569⟩:∃ y_:List Int,y_=(([9223372036854775807,(-9223372036854775808),4611686018427387904,65535,65536,(-1000),4294967295,4294967296]:List Int)):=⟨_,rfl⟩
   replace H:((spec_l01Cur_pick.f s0_0 t564 t565 8).bind fun bt572=>(if 0≤bt572.1 then (if bt572.1 < (y569.length:Int) then (some (rd y569 bt572.1,bt572.2.1,bt572.2.2)) else (none)) else (none)))=some (r1,r2,r3):=by first|(rw [hy569];with_reducible exact H)|(have H2_:=(Option.bind_some _ _).symm.trans H;rw [hy569];with_reducible exact H2_)|(have H2_:=(Option.bind_some _ _).symm.trans H;with_reducible exact H2_)|with_reducible exact H|(rw [hy569];exact H)|exact H
   have Ny569 := D hy569; clear hy569; obtain ⟨⟨t572, t573, t574⟩, A90, H⟩ := bs_.mp H; (try dsimp only at H); have A9 := D A90; clear A90
   by_cases c10 : 0 ≤ t572
   ·rw [if_pos c10] at H
    have c10b0 : decide (0 ≤ t572) = true := decide_eq_true c10; clear c10
    by_cases c11 : t572 < (y569.length : Int)
    ·rw [if_pos c11] at H
     have c11b0 : decide (t572 < (y569.length : Int)) = true := decide_eq_true c11; clear c11; simp only [Option.some.injEq, Prod.mk.injEq] at H; obtain ⟨rfl, rfl, rfl⟩ := H
     go_wp2_with (first|((with_reducible refine gate_dst (N:=12) rfl ?_);refine Kd.R_lit (Kd.int .i64) _ 3 ?hg (N:=12) ?hd (xs:=([9223372036854775807,(-9223372036854775808),4611686018427387904,65535,65536,(-1000),4294967295,4294967296]:List Int)) (inner:=[I L 9223372036854775807,I L (-9223372036854775808),I L 4611686018427387904,I L 65535,I L 65536,I L (-1000),I L 4294967295,I L 4294967296]) (ok:=fun _=>True) (okp:=fun _=>True) ?hr ?hp (fun _ hk=>hk) trivial (Below.refl _ _) (Nat.le_refl _) (by simp) ?_;(case hd=>rfl);(case hg=>rfl);(case hr=>first|(go_simp;done)|(go_simp;rfl));(case hp=>exact (Reps.one (show Kd.M (Kd.int .i64) _ _ _ 9223372036854775807 [I L 9223372036854775807] from rfl) (Reps.one (show Kd.M (Kd.int .i64) _ _ _ (-9223372036854775808) [I L (-9223372036854775808)] from rfl) (Reps.one (show Kd.M (Kd.int .i64) _ _ _ 4611686018427387904 [I L 4611686018427387904] from rfl) (Reps.one (show Kd.M (Kd.int .i64) _ _ _ 65535 [I L 65535] from rfl) (Reps.one (show Kd.M (Kd.int .i64) _ _ _ 65536 [I L 65536] from rfl) (Reps.one (show Kd.M (Kd.int .i64) _ _ _ (-1000) [I L (-1000)] from rfl) (Reps.one (show Kd.M (Kd.int .i64) _ _ _ 4294967295 [I L 4294967295] from rfl) (Reps.one (show Kd.M (Kd.int .i64) _ _ _ 4294967296 [I L 4294967296] from rfl) (Reps.none _ _))))))))));intro v570 w12 ho13 hb hg_ hnew_;clear hg_ hnew_;(first|rw [← Ny569.out] at ho13|(simp only [Int.reduceToNat] at ho13;rw [← Ny569.out] at ho13));have n_:=an_ (Kd.R_lower ho13 (keep_size (w:=w) (g:=g) (row:=none) (pK_ HK.out)))<|an_ (IsS55.below (pU55_ HI0.out) hb)<|an_ (KeepBut.trans (pK_ HK.out) (KeepBut.of_below hb g none) (.inl rfl))<|D (below_step (pT55_ HB.out) hb);clear HI0 HK HB;obtain ⟨HO571,HI0,HK,HB⟩:=n_;clear hb ho13)|((with_reducible refine gate_callee (f:=18) rfl ?_);refine goesL_ (some 14) rfl rfl Try.func18 (by kernel_rfl) rfl #[.pointer (some ⟨g,0,none⟩),I L 8] rfl Z20 ?_;(with_reducible refine (spec_l01Cur_pick.calls g s0_0 t564 t565 8 t572 t573 t574 w0 _ ?side1 ?side2 A9.out).mono ?_);(case side1=>exact pS55_ HI0.out);(case side2=>exact pT55_ HB.out);rintro e w14 ⟨rfl,hi,hb,hk⟩;refine ⟨_,rfl,?_⟩;have n_:=an_ (Kd.R_mono (Kd.R_keep (IsS55.apart (show IsS55 w0 _ g s0_0 t564 t565 from pS55_ HI0.out) (pR_ HO571.out) (by decide)) hk (fun _ h=>h.2)) (fun _ h=>h.1))<|an_ (KeepBut.trans (pK_ HK.out) hk (.inl rfl))<|an_ (hb)<|D (hi);clear HO571 HK HB HI0;obtain ⟨HO571,HK,HB,HI0⟩:=n_;(try clear hb);(try clear hk);(try clear hi);obtain ⟨Ao15,co15,eo15⟩:=Kd.R_slice HO571.out;subst eo15;have p575:0≤(t572:Int):=od_ Z68;have q575:t572 < (y569.length:Int):=od_ Z68;obtain ⟨ad575,e575,hx575_0⟩:=Kd.at_int (Kd.R_reads' HO571.out).2.2 t572 p575 q575;cases e575;replace p575:=eq_true p575;replace q575:=eq_true q575))
     go_ret; exact ⟨er_, pS55_ HI0.out, pT55_ HB.out, pK_ HK.out⟩
    ·rw [if_neg c11] at H
     exact absurd H (by simp)
   ·rw [if_neg c10] at H
    exact absurd H (by simp)
  ·rw [if_neg c8] at H
   have c8b0:(t563 == 1)=false:=beq_eq_false_iff_ne.mpr c8;have c8b1:(t563 != 1)=true:=bne_iff_ne.mpr c8;obtain ⟨⟨t576,t577,t578⟩,A160,H⟩:=bs_.mp H;(try dsimp only at H);have A16:=D A160;clear A160;simp only [Option.some.injEq,Prod.mk.injEq] at H;obtain ⟨rfl,rfl,rfl⟩:=H
   go_wp2_with (first|((with_reducible refine gate_callee (f:=18) rfl ?_);refine goesL_ (some 18) rfl rfl Try.func18 (by kernel_rfl) rfl #[.pointer (some ⟨g,0,none⟩),I L 14] rfl Z20 ?_;(with_reducible refine (spec_l01Cur_pick.calls g s0_0 t564 t565 14 t576 t577 t578 w0 _ ?side1 ?side2 A16.out).mono ?_);(case side1=>exact pS55_ HI0.out);(case side2=>exact pT55_ HB.out);rintro e w17 ⟨rfl,hi,hb,hk⟩;refine ⟨_,rfl,?_⟩;have n_:=an_ (KeepBut.trans (pK_ HK.out) hk (.inl rfl))<|an_ (hb)<|D (hi);clear HK HB HI0;obtain ⟨HK,HB,HI0⟩:=n_;(try clear hb);(try clear hk);(try clear hi)))
   go_ret; exact ⟨er_, pS55_ HI0.out, pT55_ HB.out, pK_ HK.out⟩

end Go.Proofs.Ytpkdkhhknmlpjaa.PFnTakenAdds
