-- by a program of this session's, over the kit's words
import Derived.Test.YtecabogkenabnacPZFnExactMains
import Derived.Test.YtecabogkenabnacPFnExactMainsx0
import Derived.Test.YtecabogkenabnacPFnExactMainsx4
namespace Go.Proofs.Ytecabogkenabnac.PFnExactMains
open Go.RowKit Go.Proofs.YtecabogkenabnacW.PrintWords Go.Proofs.YtecabogkenabnacW.PrintLast Go.Proofs.YtecabogkenabnacW.PrintMore Go.Proofs.YtecabogkenabnacV Go.Proofs.Ytecabogkenabnac.ZFnExactMains
attribute [local go_sem] max2_int min2_int max_two min_two max_three min_three max_four min_four   -- for this text's walks alone
set_option linter.unusedVariables false
set_option linter.unusedSimpArgs false

/-! ### impl_mains_1: function 30 -/
def impl_mains_1.f (a0_0 : Int) (a0_1 : Int) (a0_2 : Int) (a0_3 : Int) (a0_4 : Int) (l0_5 : List Int) (a1_0 : Int) : Option (Bool) := (impl_Vec_on.f a0_2 a0_3 a0_4 a1_0).bind fun t214 => ((impl_VecTop.f a0_2 a0_3 a0_4).bind fun t215 => (some (t214 != t215)))
def impl_mains_1.T1 : Bool × List (List Nat × List Nat) := (true, [([], []), ([0], [0]), ([], []), ([1, 2], [1, 2]), ([], []), ([4], [4]), ([5, 3], [5]), ([3, 6], [3, 6]), ([7, 6, 0, 1, 2, 3, 4, 5, 6, 7], [7])])
def impl_mains_1.B1 : List Nat := [0, 1, 0, 7, 0, 16, 63, 127, 255]
theorem impl_mains_1.tab1 : rtab .any (opsOf Try.f30 1) = impl_mains_1.T1 := by kernel_rfl
theorem impl_mains_1.bits1 : waitsOk impl_mains_1.T1.2 impl_mains_1.B1 = true := by kernel_rfl
set_option maxHeartbeats 8000000 in
set_option maxRecDepth 100000 in
theorem impl_mains_1.calls (a0_0 : Int) (a0_1 : Int) (a0_2 : Int) (a0_3 : Int) (a0_4 : Int) (A0_5 : Option Addr) (c0_5 : Nat) (l0_5 : List Int) (gc1 : Nat) (a1_0 : Int) (r : Bool) (w : World) (hr0_5 : Kd.C (Kd.int .i64) w A0_5 l0_5.length l0_5) (hc0_5 : l0_5.length ≤ c0_5) (hbx1 : w.heap[gc1]? = some (.cells #[.int .i64 a1_0] 3 (0, 0))) (h : impl_mains_1.f a0_0 a0_1 a0_2 a0_3 a0_4 l0_5 a1_0 = some r) :
  Calls Try.prog 30 #[.agg #[.int .i64 a0_0,.int .i64 a0_1,.int .i64 a0_2,.int .i64 a0_3,.int .i64 a0_4,.slice A0_5 l0_5.length c0_5],.pointer (some ⟨gc1,0,none⟩)] w fun e w'=>e=.returned (.bool r)∧Below w.heap.size w w':=by
 have hu43 := Try.underlying43
 have hu41 := Try.underlying41
 have HR0_5 := Aside0.mk hr0_5
 have HC0_5 := Aside0.mk hc0_5
 clear hr0_5 hc0_5
 have BK1 := Aside0.mk hbx1
 clear hbx1
 have HB := Aside0.mk (Below.refl w.heap.size w)
 have H : ((impl_Vec_on.f a0_2 a0_3 a0_4 a1_0).bind fun t214 => ((impl_VecTop.f a0_2 a0_3 a0_4).bind fun t215 => (some (t214 != t215)))) = some r := h
 clear h
 obtain ⟨t214, A30, H⟩ := Option.bind_eq_some_iff.mp H
 (try dsimp only at H)
 have A3 := Aside0.mk A30
 clear A30
 obtain ⟨t215, A40, H⟩ := Option.bind_eq_some_iff.mp H
 (try dsimp only at H)
 have A4 := Aside0.mk A40
 clear A40
 obtain rfl := Option.some.inj H
 go_enter Try.func30, Try.ntmps30
 try go_wp2_with (first|((with_reducible refine gate_dst (N:=2) rfl ?_);refine box_event ?hg (N:=2) ?hd (cs:=#[.int .i64 a0_0,.int .i64 a0_1,.int .i64 a0_2,.int .i64 a0_3,.int .i64 a0_4,.slice A0_5 l0_5.length c0_5]) (t:=43) ?hr ?_;(case hd=>rfl);(case hg=>rfl);(case hr=>first|(go_simp;done)|(go_simp;rfl));intro gb213 hg w5 hbox hb;have n_:=an_ (blk_below (pk_ BK1.out) hb)<|an_ (below_step (pB_ HB.out) hb)<|an_ (hbox)<|an_ ((by rw [hg];exact (below_size (pB_ HB.out)):w.heap.size≤gb213))<|an_ ((by rw [hg];exact (below_size (pB_ HB.out)):w.heap.size≤gb213))<|an_ ((by rw [hg];exact Nat.ne_of_lt (blk_lt (pk_ BK1.out)):gc1≠gb213))<|Aside0.mk ((by rw [hg];exact Nat.ne_of_gt (blk_lt (pk_ BK1.out)):gb213≠gc1));clear BK1 HB;obtain ⟨BK1,HB,BK213,GW213,GE213,NB1_213,NB213_1⟩:=n_;clear hb hbox hg))
 have n_ := an_ (blk_drew BK1.out) <| an_ (blk_drew BK213.out) <| Aside0.mk (below_drew1 HB.out)
 clear BK1 BK213 HB
 obtain ⟨BK1, BK213, HB⟩ := n_
 refine start_ (n:=9) (S:=fun w'=>w'.cell? ⟨gb213,0,none⟩=some (.int .i64 a0_0)∧w'.cell? ⟨gb213,1,none⟩=some (.int .i64 a0_1)∧w'.cell? ⟨gb213,2,none⟩=some (.int .i64 a0_2)∧w'.cell? ⟨gb213,3,none⟩=some (.int .i64 a0_3)∧w'.cell? ⟨gb213,4,none⟩=some (.int .i64 a0_4)∧w'.cell? ⟨gb213,5,none⟩=some (.slice A0_5 l0_5.length c0_5)∧w'.cell? ⟨gc1,0,none⟩=some (.int .i64 a1_0)) (ds:=[]) (bz 9 0) (by kernel_rfl) rfl (by kernel_rfl) ⟨(blk_cell BK213.out 0).trans rfl,(blk_cell BK213.out 1).trans rfl,(blk_cell BK213.out 2).trans rfl,(blk_cell BK213.out 3).trans rfl,(blk_cell BK213.out 4).trans rfl,(blk_cell BK213.out 5).trans rfl,(blk_cell BK1.out 0).trans rfl⟩ (fun hHeld=>?_);refine with_tabW impl_mains_1.tab1 impl_mains_1.bits1 (fun HT_ HW_=>?_)
 generalize w5.drew = w6 at BK1 BK213 HB hHeld ⊢
 refine px_ (i := 0) (N := some 4) (bz 9 1) (any_of HT_.out (by kernel_rfl)) ?_
 refine px_ (i := 4) (N := some 8) (bz 9 17) (any_of HT_.out (by kernel_rfl)) ?_
 refine tx_ (i := 1) (N := some 5) (bz 9 19) rfl rfl (take_ofW HT_.out HW_.out (by kernel_rfl)) hHeld Z7 ?_
 refine tx_ (i := 2) (N := some 6) (bz 9 23) rfl rfl (take_ofW HT_.out HW_.out (by kernel_rfl)) hHeld Z7 ?_
 refine tx_ (i := 5) (N := some 9) (bz 9 55) rfl rfl (take_ofW HT_.out HW_.out (by kernel_rfl)) hHeld Z7 ?_
 refine one_ (i := 3) (N := some 7) (bz 9 63) rfl rfl (one_of HT_.out (by kernel_rfl)) (by decide) (fun K hK => ?_)
 refine goes_ Try.func31 (by kernel_rfl) rfl #[.agg #[.int .i64 a0_2, .int .i64 a0_3, .int .i64 a0_4], .int .i64 a1_0] (by rfl) rfl rfl Z2 ?_
 with_reducible refine (impl_Vec_on.calls a0_2 a0_3 a0_4 a1_0 t214 _ A3.out).mono ?_
 rintro e w7 ⟨rfl, hb⟩
 refine ⟨_, rfl, ?_⟩
 have n_ := an_ (blk_below (pk_ BK1.out) hb) <| an_ (blk_below (pk_ BK213.out) hb) <| Aside0.mk (below_step (pB_ HB.out) hb)
 clear BK1 BK213 HB
 obtain ⟨BK1, BK213, HB⟩ := n_
 (try clear hb)
 (try clear hb2)
 (try clear hk)
 (try clear hi)
 refine hK.out _ _ ⟨(blk_cell BK213.out 0).trans rfl,(blk_cell BK213.out 1).trans rfl,(blk_cell BK213.out 2).trans rfl,(blk_cell BK213.out 3).trans rfl,(blk_cell BK213.out 4).trans rfl,(blk_cell BK213.out 5).trans rfl,(blk_cell BK1.out 0).trans rfl⟩ (fun hHeld=>?_)
 clear hK K
 refine nx_ (N := some 7) ?_
 refine one_ (i := 6) (N := some 10) (bz 9 127) rfl rfl (one_of HT_.out (by kernel_rfl)) (by decide) (fun K hK => ?_)
 refine goes_ Try.func32 (by kernel_rfl) rfl #[.agg #[.int .i64 a0_2, .int .i64 a0_3, .int .i64 a0_4]] (by rfl) rfl rfl Z2 ?_
 with_reducible refine (impl_VecTop.calls a0_2 a0_3 a0_4 t215 _ A4.out).mono ?_
 rintro e w8 ⟨rfl, hb⟩
 refine ⟨_, rfl, ?_⟩
 have n_ := an_ (blk_below (pk_ BK1.out) hb) <| an_ (blk_below (pk_ BK213.out) hb) <| Aside0.mk (below_step (pB_ HB.out) hb)
 clear BK1 BK213 HB
 obtain ⟨BK1, BK213, HB⟩ := n_
 (try clear hb)
 (try clear hb2)
 (try clear hk)
 (try clear hi)
 refine hK.out _ _ ⟨(blk_cell BK213.out 0).trans rfl,(blk_cell BK213.out 1).trans rfl,(blk_cell BK213.out 2).trans rfl,(blk_cell BK213.out 3).trans rfl,(blk_cell BK213.out 4).trans rfl,(blk_cell BK213.out 5).trans rfl,(blk_cell BK1.out 0).trans rfl⟩ (fun hHeld=>?_)
 clear hK K
 refine nx_ (N := some 10) ?_
 refine px_ (i := 7) (N := some 11) (bz 9 255) (any_of HT_.out (by kernel_rfl)) ?_
 refine px_ (i := 8) (N := some 3) (bz 9 511) (any_of HT_.out (by kernel_rfl)) ?_
 refine done_ (done_of HT_.out (by kernel_rfl)) ?_
 try go_wp2
 go_ret
 exact ⟨by first | rfl | (simp [errW_none, errW_some] <;> rfl) | (simp [*, errW_none, errW_some] <;> rfl), pB_ HB.out⟩

/-! ### impl_mains: function 19 -/
def impl_mains.l0 : Nat → List (S43) → List Int → Int → Option (List Int)
 | 0, _, _, _ => none
 | k + 1,x0,x3,x6=>if x6 < 3 then (if (x0.length:Int) > 0 then ((slices_ContainsFunc_impl_Deal_impl_Deal.f k x0 (fun z0_ z1_ z2_ z3_ z4_ z5_=>impl_mains_1.f z0_ z1_ z2_ z3_ z4_ z5_ x6)).bind fun t220=>(if t220=true then (impl_mains.l0 k x0 x3 (wrap64 (x6 + 1))) else (if x3.length < 17592186044416 then (impl_mains.l0 k x0 (x3 ++ [x6]) (wrap64 (x6 + 1))) else (none)))) else (impl_mains.l0 k x0 x3 (wrap64 (x6 + 1)))) else (some x3)
def impl_mains.f (k : Nat) (l0 : List (S43)) : Option (List Int) := impl_mains.l0 k l0 (([] : List Int)) 0
set_option maxHeartbeats 8000000 in
set_option maxRecDepth 100000 in
theorem impl_mains.calls (k : Nat) (A0 : Option Addr) (c0 : Nat) (l0 : List (S43)) (r : List Int) (w : World) (hr0 : Kd.C k43 w A0 l0.length l0) (hc0 : l0.length ≤ c0) (h : impl_mains.f k l0 = some r) :
  Calls Try.prog 19 #[.slice A0 l0.length c0] w fun e w' => ∃ v0_ : Value, e = .returned (v0_) ∧ Kd.R (Kd.int .i64) 3 w' w.heap.size (fun _ => True) v0_ r ∧ Below w.heap.size w w' := by
 have hmf : ∀ (fn : Fn) (first cap : Array Value) (w : World), (Instr.makeFunc fn first cap).run Try.prog w = .ok (.func fn first cap) w := fun _ _ _ _ => rfl
 have HR0 := Aside0.mk hr0
 have HC0 := Aside0.mk hc0
 clear hr0 hc0
 have HB := Aside0.mk (Below.refl w.heap.size w)
 have H : (impl_mains.l0 k l0 (([] : List Int)) 0) = some r := h
 clear h
 obtain ⟨y216, hy216⟩ : ∃ y_ : List Int, y_ = (([] : List Int)) := ⟨_, rfl⟩
 replace H:(impl_mains.l0 k l0 y216 0)=some r:=by first|(rw [hy216];with_reducible exact H)|(have H2_:=(Option.bind_some _ _).symm.trans H;rw [hy216];with_reducible exact H2_)|(have H2_:=(Option.bind_some _ _).symm.trans H;with_reducible exact H2_)|with_reducible exact H|(rw [hy216];exact H)|exact H
 have Ny216 := Aside0.mk hy216
 clear hy216
 have H' := Aside0.mk H
 clear H
 go_enter Try.func19, Try.ntmps19
 go_wp2_with (first|((with_reducible refine gate_dst (N:=5) rfl ?_);refine Kd.R_lit (Kd.int .i64) _ 3 ?hg (N:=5) ?hd (xs:=([]:List Int)) (inner:=[]) (ok:=fun _=>True) (okp:=fun _=>True) ?hr ?hp (fun _ hk=>hk) trivial (Below.refl _ _) (Nat.le_refl _) (by simp) ?_;(case hd=>rfl);(case hg=>rfl);(case hr=>first|(go_simp;done)|(go_simp;rfl));(case hp=>exact (Reps.none _ _));intro v217 w2 ho3 hb hg_ hnew_;clear hg_ hnew_;(first|rw [← Ny216.out] at ho3|(simp only [Int.reduceToNat] at ho3;rw [← Ny216.out] at ho3));have n_:=an_ (Kd.R_lower ho3 (below_size (pB_ HB.out)))<|Aside0.mk (below_step (pB_ HB.out) hb);clear HB;obtain ⟨HO218,HB⟩:=n_;clear hb ho3))
 go_loopg [3,6] k (fun kq v3 v6 w'=>∃ (x3_1:List Int) (x6_1:Int),v6=.int .i64 x6_1∧Aside0 (impl_mains.l0 kq l0 x3_1 x6_1=some r)∧Aside0 (kq≤k)∧Aside0 (Kd.R (Kd.int .i64) 3 w' w.heap.size (fun _=>True) v3 x3_1)∧Aside0 (Below w.heap.size w w'))
 case atStart => exact ⟨(y216), (0), Z9, H', ⟨Nat.le_refl _⟩, ⟨pR_ HO218.out⟩, ⟨pB_ HB.out⟩⟩
 case round =>
  clear H'
  try clear c1
  try clear p2
  obtain ⟨x3_1, x6_1, rfl, HA, HK1, HO_3, HB⟩ := hrel
  cases gk with
  | zero => exact absurd HA.out (by simp [impl_mains.l0])
  | succ k1 =>
   have H := HA.out; clear HA; simp only [impl_mains.l0] at H
   by_cases c4 : x6_1 < 3
   ·rw [if_pos c4] at H
    have c4b0 : decide (x6_1 < 3) = true := decide_eq_true c4; clear c4
    by_cases c5 : (l0.length : Int) > 0
    ·rw [if_pos c5] at H
     have c5b0:decide (0 < (l0.length:Int))=true:=decide_eq_true c5;have c5b1:decide (0 < l0.length)=true:=decide_eq_true (by omega);clear c5;obtain ⟨t220,A60,H⟩:=Option.bind_eq_some_iff.mp H;(try dsimp only at H);have A6:=Aside0.mk A60;clear A60;have HU7:=Aside0.mk H;clear H
     go_upto_if 17 with (first|((with_reducible refine gate_dst (N:=4) rfl ?_);refine box_event ?hg (N:=4) ?hd (cs:=#[.int .i64 0]) (t:=3) ?hr ?_;(case hd=>rfl);(case hg=>rfl);(case hr=>first|(go_simp;done)|(go_simp;rfl));intro gb219 hg w8 hbox hb;have n_:=an_ (Kd.R_below (Kd.R_elderB (pR_ HO_3.out) gb219 (Nat.le_of_eq hg.symm)) hb)<|an_ (below_step (pB_ HB.out) hb)<|an_ (hbox)<|an_ ((by rw [hg];exact (below_size (pB_ HB.out)):w.heap.size≤gb219))<|Aside0.mk ((by rw [hg];exact (below_size (pB_ HB.out)):w.heap.size≤gb219));clear HO_3 HB;obtain ⟨HO_3,HB,BK219,GW219,GE219⟩:=n_;clear hb hbox hg;have hcz9_0:w8.cell? ⟨gb219,0,none⟩=some (.int .i64 0):=(blk_cell BK219.out 0).trans rfl;have hfz9_0:=blk_frozen BK219.out 0)|(go_at_call 29;(with_reducible refine (slices_ContainsFunc_impl_Deal_impl_Deal.calls k1 _ _ l0 (fun z0_ z1_ z2_ z3_ z4_ z5_=>impl_mains_1.f z0_ z1_ z2_ z3_ z4_ z5_ x6_1) 30 #[.pointer (some ⟨gb219,0,none⟩)] t220 _ ?side1 ?side2 ?side3 ?side4 A6.out).mono ?_);(case side1=>exact Kd.C_below HR0.out (pB_ HB.out));(case side2=>exact HC0.out);(case side3=>exact ⟨⟨_,Try.func30,by kernel_rfl,rfl⟩⟩);(case side4=>refine ⟨?_⟩;intro a900_0 a900_1 a900_2 a900_3 a900_4 A900_5 c900_5 l900_5 rr0_ W_ hW_ hr900_5 hc900_5 h_;refine calls_of_args (args':=#[.agg #[.int .i64 a900_0,.int .i64 a900_1,.int .i64 a900_2,.int .i64 a900_3,.int .i64 a900_4,.slice A900_5 l900_5.length c900_5],.pointer (some ⟨gb219,0,none⟩)]) (by simp) ?_;refine (impl_mains_1.calls a900_0 a900_1 a900_2 a900_3 a900_4 A900_5 c900_5 l900_5 gb219 x6_1 rr0_ W_ hr900_5 hc900_5 (blk_below (g:=gb219) (o:=.cells #[.int .i64 x6_1] 3 (0,0)) Z4 hW_) h_).mono ?_;rintro e w' ⟨rfl,hd_⟩;exact ⟨rfl,hd_⟩);rintro e w10 ⟨rfl,hb⟩;have n_:=an_ (Kd.R_below (pR_ (Kd.R_mono (fr_ (Kd.R_mono HO_3.out (fun k_ hk=>(⟨hk,hk.2⟩:_∧k_≠gb219))) 0 (.int .i64 x6_1)) (fun _ h_=>h_.1))) hb)<|an_ (blk_below (g:=gb219) (o:=.cells #[.int .i64 x6_1] 3 (0,0)) Z4 hb)<|Aside0.mk (below_step (pB_ HB.out) hb);clear HO_3 BK219 HB;obtain ⟨HO_3,BK219,HB⟩:=n_;(try clear hb);(try clear hb2);(try clear hk);(try clear hi)))
     have H := HU7.out; clear HU7
     by_cases c11 : t220 = true
     ·subst c11
      rw [if_pos rfl] at H; have H' := Aside0.mk H; clear H
      go_wp2
      go_roundg k1
      case measure => have := HK1.out; omega
      case rel => exact ⟨(x3_1), (wrap64 (x6_1 + 1)), Z9, H', ⟨by have := HK1.out; omega⟩, ⟨pR_ (Kd.R_mono HO_3.out (fun _ hk => trivial))⟩, ⟨pB_ HB.out⟩⟩
     ·replace c11 := Bool.eq_false_iff.mpr c11
      subst c11; rw [if_neg (show ¬ (false = true) by decide)] at H
      by_cases c12 : x3_1.length < 17592186044416
      ·rw [if_pos c12] at H
       have LMc12 := Aside0.mk c12; clear c12; obtain ⟨y221, hy221⟩ : ∃ y_ : List Int, y_ = (x3_1 ++ [x6_1]) := ⟨_, rfl⟩
       replace H:(impl_mains.l0 k1 l0 y221 (wrap64 (x6_1 + 1)))=some r:=by first|(rw [hy221];with_reducible exact H)|(have H2_:=(Option.bind_some _ _).symm.trans H;rw [hy221];with_reducible exact H2_)|(have H2_:=(Option.bind_some _ _).symm.trans H;with_reducible exact H2_)|with_reducible exact H|(rw [hy221];exact H)|exact H
       have Ny221 := Aside0.mk hy221; clear hy221; have H' := Aside0.mk H; clear H; obtain ⟨hcz13_0, hfz13_0⟩ := cells1 BK219.out
       go_wp2_with (first|((with_reducible refine gate_builtin (b:=.append) (xs:=#[.tmp 18,.tmp 20]) rfl ?_);at_builtin;refine Kd.R_append (Kd.int .i64) (w0:=w) w.heap.size rfl (.tmp 18) (.tmp 20) 24 3 (.int .i64 0) 8 rfl Try.underlying24 info3 rfl (by decide) (by omega) u3 x3_1 x6_1 [.int .i64 x6_1] (fun k_=>k_≠gb219) (fun _=>False) rfl rfl ?aP (fun _ hk=>hk.elim) ?aF ?aO ?aB ?aS ?aL ?_;(case aP=>exact rfl);(case aB=>exact (pB_ HB.out));(case aF=>exact (fun k_ hk=>Kd.freshB (pk_ BK219.out) k_ hk));(case aO=>exact (pR_ (Kd.R_mono HO_3.out (fun _ hk=>hk.2))));(case aS=>exact (below_size (pB_ HB.out)));(case aL=>have:=LMc12.out;omega);intro v222 w14 ho hb hg hat;rw [← Ny221.out] at ho;have n_:=an_ (blk_grown (pk_ BK219.out) hg (Kd.R_away HO_3.out (fun _ hk=>hk.2)))<|an_ (hb)<|Aside0.mk (ho);clear BK219 HB HO_3;obtain ⟨BK219,HB,HO223⟩:=n_;clear ho hb hg hat))
       go_roundg k1
       case measure => have := HK1.out; omega
       case rel => exact ⟨(y221), (wrap64 (x6_1 + 1)), Z9, H', ⟨by have := HK1.out; omega⟩, ⟨pR_ (Kd.R_mono HO223.out (fun _ hk => trivial))⟩, ⟨pB_ HB.out⟩⟩
      ·rw [if_neg c12] at H
       exact absurd H (by simp)
    ·rw [if_neg c5] at H
     have c5b0 : decide (0 < (l0.length : Int)) = false := decide_eq_false c5; have c5b1 : decide (0 < l0.length) = false := decide_eq_false (by omega); clear c5; have H' := Aside0.mk H; clear H
     go_wp2_with (first|((with_reducible refine gate_dst (N:=4) rfl ?_);refine box_event ?hg (N:=4) ?hd (cs:=#[.int .i64 0]) (t:=3) ?hr ?_;(case hd=>rfl);(case hg=>rfl);(case hr=>first|(go_simp;done)|(go_simp;rfl));intro gb219 hg w15 hbox hb;have n_:=an_ (Kd.R_below (Kd.R_elderB (pR_ HO_3.out) gb219 (Nat.le_of_eq hg.symm)) hb)<|an_ (below_step (pB_ HB.out) hb)<|an_ (hbox)<|an_ ((by rw [hg];exact (below_size (pB_ HB.out)):w.heap.size≤gb219))<|Aside0.mk ((by rw [hg];exact (below_size (pB_ HB.out)):w.heap.size≤gb219));clear HO_3 HB;obtain ⟨HO_3,HB,BK219,GW219,GE219⟩:=n_;clear hb hbox hg;have hcz16_0:w15.cell? ⟨gb219,0,none⟩=some (.int .i64 0):=(blk_cell BK219.out 0).trans rfl;have hfz16_0:=blk_frozen BK219.out 0))
     go_roundg k1
     case measure => have := HK1.out; omega
     case rel=>exact ⟨(x3_1),(wrap64 (x6_1 + 1)),Z9,H',⟨by have:=HK1.out;omega⟩,⟨pR_ (Kd.R_mono (fr_ (Kd.R_mono HO_3.out (fun k_ hk=>(⟨hk,hk.2⟩:_∧k_≠gb219))) 0 (.int .i64 x6_1)) (fun _ hk=>trivial))⟩,⟨pB_ HB.out⟩⟩
   ·rw [if_neg c4] at H
    have c4b0 : decide (x6_1 < 3) = false := decide_eq_false c4; clear c4; obtain rfl := Option.some.inj H
    go_wp2
    go_ret;exact ⟨_,by first|rfl|(simp [errW_none,errW_some] <;> rfl)|(simp [*,errW_none,errW_some] <;> rfl),by (with_reducible repeat (first|apply Kd.R_alloc|apply Kd.R_drewN|apply Kd.R_drew));exact HO_3.out,pB_ HB.out⟩

/-! ### impl_dealsOf: function 20 -/
def impl_dealsOf.l0 : Nat → Int → List (S43) → List (S43) → Int → Int → Option ((List (S43)))
 | 0, _, _, _, _, _ => none
 | k + 1,x1,x5,x9,x10,x11=>if x11 < x10 then (if 0≤x11 then (if x11 < (x9.length:Int) then (if ((rd_T43 x9 x11).f0)=x1 then (if x5.length < 2199023255552 then (impl_dealsOf.l0 k x1 (x5 ++ [(⟨(rd_T43 x9 x11).f0,(rd_T43 x9 x11).f1,(⟨(rd_T43 x9 x11).f2.f0,(rd_T43 x9 x11).f2.f1,(rd_T43 x9 x11).f2.f2⟩:S41),(rd_T43 x9 x11).f3⟩:S43)]) x9 x10 (wrap64 (x11 + 1))) else (none)) else (impl_dealsOf.l0 k x1 x5 x9 x10 (wrap64 (x11 + 1)))) else (none)) else (none)) else (some x5)
def impl_dealsOf.f (k : Nat) (l0 : List (S43)) (a1 : Int) : Option ((List (S43))) := impl_dealsOf.l0 k a1 (([] : List (S43))) l0 (l0.length : Int) 0
set_option maxHeartbeats 8000000 in
set_option maxRecDepth 100000 in
theorem impl_dealsOf.calls (k : Nat) (P0_ : Nat → Prop) (A0 : Option Addr) (c0 : Nat) (l0 : List (S43)) (a1 : Int) (r : List (S43)) (w : World) (hs0 : Kd.V k43 43 w w.heap.size (fun k_ => P0_ k_) (.slice A0 l0.length c0) l0) (h : impl_dealsOf.f k l0 a1 = some r) :
  Calls Try.prog 20 #[.slice A0 l0.length c0,.int .i64 a1] w fun e w'=>∃ v0_:Value,e=.returned (v0_)∧Kd.N k43 43 w' w.heap.size (fun k_=>(P0_ k_ ∨ w.heap.size≤k_)) v0_ r∧Below w.heap.size w w':=by
 have hu43 := Try.underlying43
 have HO0 := Aside0.mk (show Kd.V k43 43 w w.heap.size (fun k_ => (P0_ k_ ∨ w.heap.size ≤ k_)) (.slice A0 l0.length c0) l0 from Kd.V_mono hs0 (fun k_ hk => .inl hk))
 have HB := Aside0.mk (Below.refl w.heap.size w)
 have H : (impl_dealsOf.l0 k a1 (([] : List (S43))) l0 (l0.length : Int) 0) = some r := h
 clear h
 obtain ⟨y224, hy224⟩ : ∃ y_ : List (S43), y_ = (([] : List (S43))) := ⟨_, rfl⟩
 replace H:(impl_dealsOf.l0 k a1 y224 l0 (l0.length:Int) 0)=some r:=by first|(rw [hy224];with_reducible exact H)|(have H2_:=(Option.bind_some _ _).symm.trans H;rw [hy224];with_reducible exact H2_)|(have H2_:=(Option.bind_some _ _).symm.trans H;with_reducible exact H2_)|with_reducible exact H|(rw [hy224];exact H)|exact H
 have Ny224 := Aside0.mk hy224
 clear hy224
 have H' := Aside0.mk H
 clear H
 go_enter Try.func20, Try.ntmps20
 go_wp2_with (first|((with_reducible refine gate_dst (N:=8) rfl ?_);refine Kd.N_lit k43 _ 43 ?hg (N':=8) ?hd (xs:=([]:List (S43))) (inner:=[]) (ok:=(fun k_=>(P0_ k_ ∨ w.heap.size≤k_))) (okp:=(fun k_=>(P0_ k_ ∨ w.heap.size≤k_))) ?hr ?hp (fun _ hk=>hk) ((show ∀ k_,w.heap.size≤k_ → (fun k_=>(P0_ k_ ∨ w.heap.size≤k_)) k_ from fun k_ hk=>(.inr (Nat.le_trans (below_size (pB_ HB.out)) hk))) _ (Nat.le_refl _)) (Below.refl _ _) (Nat.le_refl _) (by simp) ?_;(case hd=>rfl);(case hg=>rfl);(case hr=>first|(go_simp;done)|(go_simp;rfl));(case hp=>exact (Reps.none _ _));intro v225 w3 ho4 hb hg_ hnew_;clear hg_ hnew_;(first|rw [← Ny224.out] at ho4|(simp only [Int.reduceToNat] at ho4;rw [← Ny224.out] at ho4));have n_:=an_ (Kd.V_elder' (pV_ HO0.out) (Kd.N_base ho4) hb)<|an_ (Kd.N_lower ho4 (below_size (pB_ HB.out)))<|Aside0.mk (below_step (pB_ HB.out) hb);clear HO0 HB;obtain ⟨HO0,HO226,HB⟩:=n_;clear hb ho4))
 go_loopg [5,11] k (fun kq v5 v11 w'=>∃ (x5_1:List (S43)) (x11_1:Int),v11=.int .i64 x11_1∧Aside0 (impl_dealsOf.l0 kq a1 x5_1 l0 (l0.length:Int) x11_1=some r)∧Aside0 (kq≤k)∧Aside0 (Kd.N k43 43 w' w.heap.size (fun k_=>(P0_ k_ ∨ w.heap.size≤k_)) v5 x5_1)∧Aside0 (Kd.V k43 43 w' w.heap.size (fun k_=>(P0_ k_ ∨ w.heap.size≤k_)∧some k_≠(v5:Value).ownBlock) (.slice A0 l0.length c0) l0)∧Aside0 (Below w.heap.size w w'))
 case atStart => exact ⟨(y224), (0), Z9, H', ⟨Nat.le_refl _⟩, ⟨pN_ HO226.out⟩, ⟨pV_ HO0.out⟩, ⟨pB_ HB.out⟩⟩
 case round =>
  clear H'
  try clear c2
  try clear p2
  obtain ⟨x5_1, x11_1, rfl, HA, HK1, HO_5, HO_9, HB⟩ := hrel
  cases gk with
  | zero => exact absurd HA.out (by simp [impl_dealsOf.l0])
  | succ k1 =>
   have H := HA.out; clear HA; simp only [impl_dealsOf.l0] at H
   by_cases c5 : x11_1 < (l0.length : Int)
   ·rw [if_pos c5] at H
    have c5b0 : decide (x11_1 < (l0.length : Int)) = true := decide_eq_true c5; clear c5
    by_cases c6 : 0 ≤ x11_1
    ·rw [if_pos c6] at H
     have c6b0 : decide (0 ≤ x11_1) = true := decide_eq_true c6; clear c6
     by_cases c7 : x11_1 < (l0.length : Int)
     ·rw [if_pos c7] at H
      have c7b0:decide (x11_1 < (l0.length:Int))=true:=decide_eq_true c7;clear c7;have HU8:=Aside0.mk H;clear H;have p227:0≤(x11_1:Int):=of_decide_eq_true Z8;have q227:x11_1 < (l0.length:Int):=of_decide_eq_true Z8;obtain ⟨ad227,A227_5,c227_5,e227,hx227_0,hx227_1,hx227_2,hx227_3,hx227_4,hx227_5,hl227_5,hi227_5⟩:=at_T43 (Kd.V_reads' HO_9.out).2.2 x11_1 p227 q227;cases e227;obtain ⟨ce227,hce227,hMe227,hcc227⟩:=Kd.V_get HO_9.out z43 x11_1 p227 (by first|exact q227|exact of_decide_eq_true Z8|(have e_:=(Kd.V_reads' HO_9.out).1;omega));obtain ⟨ua227_5,uc227_5,rfl,ul227_5,ge227_5⟩:=k43_openF hMe227;have hv227_5:=hcc227 5 _ rfl;rw [add_field _ _ 5 (by omega)] at hv227_5;replace hv227_5:=Option.some.inj (hv227_5.symm.trans hx227_5)
      injection hv227_5 with hva_ hvn_ hvc_
      rw [hva_] at ge227_5;rw [hvc_] at ul227_5;have HL227_5:=Aside0.mk (show Kd.V (Kd.int .i64) 3 _ w.heap.size _ _ ((rd_T43 l0 x11_1).f3) from Kd.V_mk ul227_5 ge227_5);clear hva_ hvn_ hvc_ ge227_5 ul227_5;clear hcc227 hce227;have HR227_5:=Aside0.mk hi227_5;have HC227_5:=Aside0.mk hl227_5;clear hi227_5 hl227_5;replace p227:=eq_true p227;replace q227:=eq_true q227
      go_upto_if 18 with (first|((with_reducible refine gate_dst (N:=7) rfl ?_);refine box_event ?hg (N:=7) ?hd (cs:=#[.int .i64 0,.int .i64 0,.int .i64 0,.int .i64 0,.int .i64 0,.slice none 0 0]) (t:=43) ?hr ?_;(case hd=>rfl);(case hg=>rfl);(case hr=>first|(go_simp;done)|(go_simp;rfl));intro gb228 hg w9 hbox hb;have n_:=an_ (Kd.N_below (Kd.N_elderB (pN_ HO_5.out) gb228 (Nat.le_of_eq hg.symm)) hb)<|an_ (Kd.V_below (Kd.V_elderB (pV_ HO_9.out) gb228 (Nat.le_of_eq hg.symm)) hb)<|an_ (Kd.V_below (Kd.V_elderB (pV_ HL227_5.out) gb228 (Nat.le_of_eq hg.symm)) hb)<|an_ (Kd.C_below (by repeat (first|(with_reducible exact HR227_5.out)|(with_reducible refine Kd.C_alloc ?_ _)|(with_reducible refine Kd.C_drewN ?_ _)|(with_reducible refine Kd.C_drew ?_)|exact HR227_5.out)) hb)<|an_ (below_step (pB_ HB.out) hb)<|an_ (hbox)<|an_ ((by rw [hg];exact (below_size (pB_ HB.out)):w.heap.size≤gb228))<|Aside0.mk ((by rw [hg];exact (below_size (pB_ HB.out)):w.heap.size≤gb228));clear HO_5 HO_9 HL227_5 HR227_5 HB;obtain ⟨HO_5,HO_9,HL227_5,HR227_5,HB,BK228,GW228,GE228⟩:=n_;clear hb hbox hg;have hcz10_0:w9.cell? ⟨gb228,0,none⟩=some (.int .i64 0):=(blk_cell BK228.out 0).trans rfl;have hcz10_1:w9.cell? ⟨gb228,1,none⟩=some (.int .i64 0):=(blk_cell BK228.out 1).trans rfl;have hcz10_2:w9.cell? ⟨gb228,2,none⟩=some (.int .i64 0):=(blk_cell BK228.out 2).trans rfl;have hcz10_3:w9.cell? ⟨gb228,3,none⟩=some (.int .i64 0):=(blk_cell BK228.out 3).trans rfl;have hcz10_4:w9.cell? ⟨gb228,4,none⟩=some (.int .i64 0):=(blk_cell BK228.out 4).trans rfl;have hcz10_5:w9.cell? ⟨gb228,5,none⟩=some (.slice none 0 0):=(blk_cell BK228.out 5).trans rfl;have hfz10_0:=blk_frozen BK228.out 0;have hfz10_1:=blk_frozen BK228.out 1;have hfz10_2:=blk_frozen BK228.out 2;have hfz10_3:=blk_frozen BK228.out 3;have hfz10_4:=blk_frozen BK228.out 4;have hfz10_5:=blk_frozen BK228.out 5))
      refine relet_ (F:=fun w11=>Aside0 (Kd.N k43 43 w11 w.heap.size (fun k_=>(P0_ k_ ∨ w.heap.size≤k_)∧k_≠gb228) u5 x5_1)∧Aside0 (Kd.V k43 43 w11 w.heap.size (fun k_=>(P0_ k_ ∨ w.heap.size≤k_)∧some k_≠(u5:Value).ownBlock∧k_≠gb228) (.slice (some ad227) l0.length c0) l0)∧Aside0 (Kd.V (Kd.int .i64) 3 w11 w.heap.size (fun k_=>(P0_ k_ ∨ w.heap.size≤k_)∧some k_≠(u5:Value).ownBlock∧k_≠gb228) (.slice A227_5 ((rd_T43 l0 x11_1).f3).length c227_5) ((rd_T43 l0 x11_1).f3))∧Aside0 (w11.heap[gb228]?=some (.cells #[.int .i64 ((rd_T43 l0 x11_1).f0),.int .i64 ((rd_T43 l0 x11_1).f1),.int .i64 ((rd_T43 l0 x11_1).f2.f0),.int .i64 ((rd_T43 l0 x11_1).f2.f1),.int .i64 ((rd_T43 l0 x11_1).f2.f2),.slice A227_5 ((rd_T43 l0 x11_1).f3).length c227_5] 43 (0,0)))∧Aside0 (Below w.heap.size w w11)) ⟨⟨pN_ (Kd.N_mono (Kd.N_far (p:=⟨gb228,5,none⟩) (Kd.N_far (p:=⟨gb228,4,none⟩) (Kd.N_far (p:=⟨gb228,3,none⟩) (Kd.N_far (p:=⟨gb228,2,none⟩) (Kd.N_far (p:=⟨gb228,1,none⟩) (Kd.N_far (p:=⟨gb228,0,none⟩) (Kd.N_mono HO_5.out (fun k_ hk=>(⟨hk,hk.2⟩:_∧k_≠gb228))) (fun _ hk=>hk.2) (.int .i64 ((rd_T43 l0 x11_1).f0))) (fun _ hk=>hk.2) (.int .i64 ((rd_T43 l0 x11_1).f1))) (fun _ hk=>hk.2) (.int .i64 ((rd_T43 l0 x11_1).f2.f0))) (fun _ hk=>hk.2) (.int .i64 ((rd_T43 l0 x11_1).f2.f1))) (fun _ hk=>hk.2) (.int .i64 ((rd_T43 l0 x11_1).f2.f2))) (fun _ hk=>hk.2) (.slice A227_5 ((rd_T43 l0 x11_1).f3).length c227_5)) (fun _ hk=>⟨hk.1.1,hk.1.2⟩))⟩,⟨pV_ (Kd.V_mono (Kd.V_far (p:=⟨gb228,5,none⟩) (Kd.V_far (p:=⟨gb228,4,none⟩) (Kd.V_far (p:=⟨gb228,3,none⟩) (Kd.V_far (p:=⟨gb228,2,none⟩) (Kd.V_far (p:=⟨gb228,1,none⟩) (Kd.V_far (p:=⟨gb228,0,none⟩) (Kd.V_mono HO_9.out (fun k_ hk=>(⟨hk,hk.2⟩:_∧k_≠gb228))) (fun _ hk=>hk.2) (.int .i64 ((rd_T43 l0 x11_1).f0))) (fun _ hk=>hk.2) (.int .i64 ((rd_T43 l0 x11_1).f1))) (fun _ hk=>hk.2) (.int .i64 ((rd_T43 l0 x11_1).f2.f0))) (fun _ hk=>hk.2) (.int .i64 ((rd_T43 l0 x11_1).f2.f1))) (fun _ hk=>hk.2) (.int .i64 ((rd_T43 l0 x11_1).f2.f2))) (fun _ hk=>hk.2) (.slice A227_5 ((rd_T43 l0 x11_1).f3).length c227_5)) (fun _ hk=>⟨hk.1.1.1,⟨hk.1.1.2,hk.1.2⟩⟩))⟩,⟨pV_ (Kd.V_mono (Kd.V_far (p:=⟨gb228,5,none⟩) (Kd.V_far (p:=⟨gb228,4,none⟩) (Kd.V_far (p:=⟨gb228,3,none⟩) (Kd.V_far (p:=⟨gb228,2,none⟩) (Kd.V_far (p:=⟨gb228,1,none⟩) (Kd.V_far (p:=⟨gb228,0,none⟩) (Kd.V_mono HL227_5.out (fun k_ hk=>(⟨hk,hk.2⟩:_∧k_≠gb228))) (fun _ hk=>hk.2) (.int .i64 ((rd_T43 l0 x11_1).f0))) (fun _ hk=>hk.2) (.int .i64 ((rd_T43 l0 x11_1).f1))) (fun _ hk=>hk.2) (.int .i64 ((rd_T43 l0 x11_1).f2.f0))) (fun _ hk=>hk.2) (.int .i64 ((rd_T43 l0 x11_1).f2.f1))) (fun _ hk=>hk.2) (.int .i64 ((rd_T43 l0 x11_1).f2.f2))) (fun _ hk=>hk.2) (.slice A227_5 ((rd_T43 l0 x11_1).f3).length c227_5)) (fun _ hk=>⟨hk.1.1.1,⟨hk.1.1.2,hk.1.2⟩⟩))⟩,⟨by refine pk_ ?_;refine blk_put (cs:=#[.int .i64 ((rd_T43 l0 x11_1).f0),.int .i64 ((rd_T43 l0 x11_1).f1),.int .i64 ((rd_T43 l0 x11_1).f2.f0),.int .i64 ((rd_T43 l0 x11_1).f2.f1),.int .i64 ((rd_T43 l0 x11_1).f2.f2),.slice none 0 0]) ?_ 5 _ rfl;refine pk_ ?_;refine blk_put (cs:=#[.int .i64 ((rd_T43 l0 x11_1).f0),.int .i64 ((rd_T43 l0 x11_1).f1),.int .i64 ((rd_T43 l0 x11_1).f2.f0),.int .i64 ((rd_T43 l0 x11_1).f2.f1),.int .i64 0,.slice none 0 0]) ?_ 4 _ rfl;refine pk_ ?_;refine blk_put (cs:=#[.int .i64 ((rd_T43 l0 x11_1).f0),.int .i64 ((rd_T43 l0 x11_1).f1),.int .i64 ((rd_T43 l0 x11_1).f2.f0),.int .i64 0,.int .i64 0,.slice none 0 0]) ?_ 3 _ rfl;refine pk_ ?_;refine blk_put (cs:=#[.int .i64 ((rd_T43 l0 x11_1).f0),.int .i64 ((rd_T43 l0 x11_1).f1),.int .i64 0,.int .i64 0,.int .i64 0,.slice none 0 0]) ?_ 2 _ rfl;refine pk_ ?_;refine blk_put (cs:=#[.int .i64 ((rd_T43 l0 x11_1).f0),.int .i64 0,.int .i64 0,.int .i64 0,.int .i64 0,.slice none 0 0]) ?_ 1 _ rfl;refine pk_ ?_;refine blk_put (cs:=#[.int .i64 0,.int .i64 0,.int .i64 0,.int .i64 0,.int .i64 0,.slice none 0 0]) ?_ 0 _ rfl;refine pk_ ?_;exact BK228.out⟩,⟨pB_ HB.out⟩⟩ ?_
      (try clear HO_5); (try clear HO_9); (try clear HL227_5); (try clear BK228); (try clear HB); rintro w11 ⟨HO_5, HO_9, HL227_5, BK228, HB⟩; have H := HU8.out; clear HU8
      by_cases c12 : ((rd_T43 l0 x11_1).f0) = a1
      ·rw [if_pos c12] at H
       have c12b0:(((rd_T43 l0 x11_1).f0) == a1)=true:=beq_iff_eq.mpr c12;have c12b1:(((rd_T43 l0 x11_1).f0) != a1)=false:=bne_eq_false_iff_eq.mpr c12;clear c12;(first|rw [c12b0]|(simp only [i64_w,i32_w];rw [c12b0])|(have cz_:=c12b0;simp only [bne,gt_iff_lt,Int.natCast_pos] at cz_;first|rw [cz_]|(simp only [i64_w,i32_w];rw [cz_]))|skip)
       by_cases c13 : x5_1.length < 2199023255552
       ·rw [if_pos c13] at H
        have LMc13:=Aside0.mk c13;clear c13;obtain ⟨y229,hy229⟩:∃ y_:List (S43),y_=(x5_1 ++ [(⟨(rd_T43 l0 x11_1).f0,(rd_T43 l0 x11_1).f1,(⟨(rd_T43 l0 x11_1).f2.f0,(rd_T43 l0 x11_1).f2.f1,(rd_T43 l0 x11_1).f2.f2⟩:S41),(rd_T43 l0 x11_1).f3⟩:S43)]):=⟨_,rfl⟩
        replace H:(impl_dealsOf.l0 k1 a1 y229 l0 (l0.length:Int) (wrap64 (x11_1 + 1)))=some r:=by first|(rw [hy229];with_reducible exact H)|(have H2_:=(Option.bind_some _ _).symm.trans H;rw [hy229];with_reducible exact H2_)|(have H2_:=(Option.bind_some _ _).symm.trans H;with_reducible exact H2_)|with_reducible exact H|(rw [hy229];exact H)|exact H
        have Ny229:=Aside0.mk hy229;clear hy229;have H':=Aside0.mk H;clear H;obtain ⟨hcz14_0,hcz14_1,hcz14_2,hcz14_3,hcz14_4,hcz14_5,hfz14_0,hfz14_1,hfz14_2,hfz14_3,hfz14_4,hfz14_5⟩:=cells6 BK228.out
        go_wp2_with (first|((with_reducible refine gate_builtin (b:=.append) (xs:=#[.tmp 19,.tmp 21]) rfl ?_);at_builtin;refine Kd.N_append k43 (w0:=w) w.heap.size rfl (.tmp 19) (.tmp 21) 26 43 (.agg #[(.int .i64 0),(.int .i64 0),(.int .i64 0),(.int .i64 0),(.int .i64 0),(.slice none 0 0)]) 64 rfl Try.underlying26 info43 rfl (by decide) (by omega) u5 x5_1 (⟨(rd_T43 l0 x11_1).f0,(rd_T43 l0 x11_1).f1,(⟨(rd_T43 l0 x11_1).f2.f0,(rd_T43 l0 x11_1).f2.f1,(rd_T43 l0 x11_1).f2.f2⟩:S41),(rd_T43 l0 x11_1).f3⟩:S43) [.int .i64 ((rd_T43 l0 x11_1).f0),.int .i64 ((rd_T43 l0 x11_1).f1),.int .i64 ((rd_T43 l0 x11_1).f2.f0),.int .i64 ((rd_T43 l0 x11_1).f2.f1),.int .i64 ((rd_T43 l0 x11_1).f2.f2),.slice A227_5 ((rd_T43 l0 x11_1).f3).length c227_5] (fun k_=>(P0_ k_ ∨ w.heap.size≤k_)∧k_≠gb228) (fun k_=>((fun k_=>(P0_ k_ ∨ w.heap.size≤k_)∧k_≠gb228)) k_∧some k_≠(u5:Value).ownBlock) rfl rfl ?aP (fun _ hk=>hk) ?aF ?aO ?aB ?aS ?aL ?_;(case aP=>exact (k43_mkF _ _ (⟨(rd_T43 l0 x11_1).f0,(rd_T43 l0 x11_1).f1,(⟨(rd_T43 l0 x11_1).f2.f0,(rd_T43 l0 x11_1).f2.f1,(rd_T43 l0 x11_1).f2.f2⟩:S41),(rd_T43 l0 x11_1).f3⟩:S43) (Kd.V_reads' (Kd.V_mono (ok':=(fun k_=>((fun k_=>(P0_ k_ ∨ w.heap.size≤k_)∧k_≠gb228)) k_∧some k_≠(u5:Value).ownBlock)) (HL227_5.out) (fun k_ hk=>⟨⟨hk.1,hk.2.2⟩,hk.2.1⟩))).2.1 (by (with_reducible repeat (first|apply Kd.F_alloc|apply Kd.F_drewN|apply Kd.F_drew));exact Kd.V_F (Kd.V_mono (ok':=(fun k_=>((fun k_=>(P0_ k_ ∨ w.heap.size≤k_)∧k_≠gb228)) k_∧some k_≠(u5:Value).ownBlock)) (HL227_5.out) (fun k_ hk=>⟨⟨hk.1,hk.2.2⟩,hk.2.1⟩)))));(case aB=>exact (pB_ HB.out));(case aF=>exact (fun k_ hk=>⟨(.inr (Nat.le_trans (below_size (pB_ HB.out)) hk)),Kd.freshB (pk_ BK228.out) k_ hk⟩));(case aO=>exact (pN_ HO_5.out));(case aS=>exact (below_size (pB_ HB.out)));(case aL=>have:=LMc13.out;omega);intro v230 w15 ho hb hg hat;rw [← Ny229.out] at ho;have n_:=an_ (Kd.V_afterv (ok:=(fun k_=>(P0_ k_ ∨ w.heap.size≤k_)∧k_≠gb228)) (pV_ (Kd.V_mono HO_9.out (fun _ hk=>⟨⟨hk.1,hk.2.2⟩,hk.2.1⟩))) hg hat)<|an_ (Kd.V_afterv (ok:=(fun k_=>(P0_ k_ ∨ w.heap.size≤k_)∧k_≠gb228)) (pV_ (Kd.V_mono HL227_5.out (fun _ hk=>⟨⟨hk.1,hk.2.2⟩,hk.2.1⟩))) hg hat)<|an_ (blk_grown (pk_ BK228.out) hg (Kd.N_away HO_5.out (fun _ hk=>hk.2)))<|an_ (hb)<|Aside0.mk (ho);clear HO_9 HL227_5 BK228 HB HO_5;obtain ⟨HO_9,HL227_5,BK228,HB,HO231⟩:=n_;clear ho hb hg hat))
        go_roundg k1
        case measure => have := HK1.out; omega
        case rel=>exact ⟨(y229),(wrap64 (x11_1 + 1)),Z9,H',⟨by have:=HK1.out;omega⟩,⟨pN_ (Kd.N_mono HO231.out (fun _ hk=>hk.1))⟩,⟨pV_ (Kd.V_mono HO_9.out (fun _ hk=>⟨hk.1.1,hk.2⟩))⟩,⟨pB_ HB.out⟩⟩
       ·rw [if_neg c13] at H
        exact absurd H (by simp)
      ·rw [if_neg c12] at H
       have c12b0:(((rd_T43 l0 x11_1).f0) == a1)=false:=beq_eq_false_iff_ne.mpr c12;have c12b1:(((rd_T43 l0 x11_1).f0) != a1)=true:=bne_iff_ne.mpr c12;(first|rw [c12b0]|(simp only [i64_w,i32_w];rw [c12b0])|(have cz_:=c12b0;simp only [bne,gt_iff_lt,Int.natCast_pos] at cz_;first|rw [cz_]|(simp only [i64_w,i32_w];rw [cz_]))|skip);have H':=Aside0.mk H;clear H
       go_wp2
       go_roundg k1
       case measure => have := HK1.out; omega
       case rel=>exact ⟨(x5_1),(wrap64 (x11_1 + 1)),Z9,H',⟨by have:=HK1.out;omega⟩,⟨pN_ (Kd.N_mono HO_5.out (fun _ hk=>hk.1))⟩,⟨pV_ (Kd.V_mono HO_9.out (fun _ hk=>⟨hk.1,hk.2.1⟩))⟩,⟨pB_ HB.out⟩⟩
     ·rw [if_neg c7] at H
      exact absurd H (by simp)
    ·rw [if_neg c6] at H
     exact absurd H (by simp)
   ·rw [if_neg c5] at H
    have c5b0 : decide (x11_1 < (l0.length : Int)) = false := decide_eq_false c5; clear c5; obtain rfl := Option.some.inj H
    go_wp2
    go_ret;exact ⟨_,by first|rfl|(simp [errW_none,errW_some] <;> rfl)|(simp [*,errW_none,errW_some] <;> rfl),by (with_reducible repeat (first|apply Kd.N_alloc|apply Kd.N_drewN|apply Kd.N_drew));exact HO_5.out,pB_ HB.out⟩

/-! ### impl_Mains: function 7 -/
def impl_Mains.f (k : Nat) (l0 : List (S43)) (a1 : Int) (a2 : Int) (a3 : Int) : Option (List Int) := (impl_span.f k l0 a2 a3).bind fun bt232 => (if bt232.2 = true then ((impl_dealsOf.f k bt232.1 a1).bind fun t236 => ((impl_mains.f k t236).bind fun t239 => (some t239))) else (some ([] : List Int)))
set_option maxHeartbeats 8000000 in
set_option maxRecDepth 100000 in
theorem impl_Mains.calls (k : Nat) (A0 : Option Addr) (c0 : Nat) (l0 : List (S43)) (a1 : Int) (a2 : Int) (a3 : Int) (r : List Int) (w : World) (hr0 : Kd.C k43 w A0 l0.length l0) (hc0 : l0.length ≤ c0) (h : impl_Mains.f k l0 a1 a2 a3 = some r) :
  Calls Try.prog 7 #[.slice A0 l0.length c0,.int .i64 a1,.int .i64 a2,.int .i64 a3] w fun e w'=>∃ v0_:Value,e=.returned (v0_)∧Kd.R (Kd.int .i64) 3 w' w.heap.size (fun _=>True) v0_ r∧Below w.heap.size w w':=by
 have HR0 := Aside0.mk hr0
 have HC0 := Aside0.mk hc0
 clear hr0 hc0
 have HB := Aside0.mk (Below.refl w.heap.size w)
 have H:((impl_span.f k l0 a2 a3).bind fun bt232=>(if bt232.2=true then ((impl_dealsOf.f k bt232.1 a1).bind fun t236=>((impl_mains.f k t236).bind fun t239=>(some t239))) else (some ([]:List Int))))=some r:=h
 clear h
 obtain ⟨⟨t232, t235⟩, A50, H⟩ := Option.bind_eq_some_iff.mp H
 (try dsimp only at H)
 have A5 := Aside0.mk A50
 clear A50
 have HU6 := Aside0.mk H
 clear H
 go_enter Try.func7, Try.ntmps7
 go_upto_if 19 with (first|((with_reducible refine gate_callee (f:=18) rfl ?_);refine goesL_ (some 15) rfl rfl Try.func18 (by kernel_rfl) rfl #[.slice A0 l0.length c0,.int .i64 a2,.int .i64 a3] rfl Z2 ?_;(with_reducible refine (impl_span.calls k (fun k_=>k_ < w.heap.size) _ _ l0 a2 a3 t232 t235 _ ?side1 A5.out).mono ?_);(case side1=>exact Kd.V_mk HC0.out (Kd.F_below (Kd.C_F k43_heap HR0.out) (pB_ HB.out)));rintro e w7 ⟨v233,rfl,ho0,hb⟩;refine ⟨_,rfl,?_⟩;have n_:=an_ (Kd.V_lower (Kd.V_mono (ok':=fun k_=>True) ho0 (fun k_ hk_=>trivial)) (below_size (pB_ HB.out)))<|Aside0.mk (below_step (pB_ HB.out) hb);clear HB;obtain ⟨HO234,HB⟩:=n_;(try clear hb);(try clear hb2);(try clear hk);(try clear hi);(try clear ho0)))
 have H := HU6.out
 clear HU6
 by_cases c8 : t235 = true
 ·subst c8
  rw [if_pos rfl] at H;obtain ⟨t236,A90,H⟩:=Option.bind_eq_some_iff.mp H;(try dsimp only at H);have A9:=Aside0.mk A90;clear A90;obtain ⟨t239,A100,H⟩:=Option.bind_eq_some_iff.mp H;(try dsimp only at H);have A10:=Aside0.mk A100;clear A100;obtain rfl:=Option.some.inj H;obtain ⟨Ao11,co11,eo11⟩:=Kd.V_slice HO234.out;subst eo11
  go_wp2_with (first|((with_reducible refine gate_callee (f:=20) rfl ?_);refine goesL_ (some 22) rfl rfl Try.func20 (by kernel_rfl) rfl #[.slice Ao11 t232.length co11,.int .i64 a1] rfl Z2 ?_;(with_reducible refine (impl_dealsOf.calls k (fun k_=>True) _ _ t232 a1 t236 _ ?side1 A9.out).mono ?_);(case side1=>exact HO234.out);rintro e w12 ⟨v237,rfl,ho0,hb⟩;refine ⟨_,rfl,?_⟩;have n_:=an_ (Kd.V_elder' (pV_ HO234.out) (Kd.N_base ho0) hb)<|an_ (Kd.N_lower (Kd.N_mono (ok':=fun k_=>True) ho0 (fun k_ hk_=>trivial)) (below_size (pB_ HB.out)))<|Aside0.mk (below_step (pB_ HB.out) hb);clear HO234 HB;obtain ⟨HO234,HO238,HB⟩:=n_;(try clear hb);(try clear hb2);(try clear hk);(try clear hi);(try clear ho0);obtain ⟨Ao13,co13,eo13⟩:=Kd.N_slice HO238.out;subst eo13)|((with_reducible refine gate_callee (f:=19) rfl ?_);refine goesL_ (some 23) rfl rfl Try.func19 (by kernel_rfl) rfl #[.slice Ao13 t236.length co13] rfl Z2 ?_;(with_reducible refine (impl_mains.calls k _ _ t236 t239 _ ?side1 ?side2 A10.out).mono ?_);(case side1=>exact pC_ ((Kd.N_reads' HO238.out).2.2));(case side2=>exact (Kd.N_reads' HO238.out).2.1);rintro e w14 ⟨v240,rfl,ho0,hb⟩;refine ⟨_,rfl,?_⟩;have n_:=an_ (Kd.V_elder' (pV_ HO234.out) (Kd.R_base ho0) hb)<|an_ (Kd.N_elder' (pN_ HO238.out) (Kd.R_base ho0) hb)<|an_ (Kd.R_lower ho0 (below_size (pB_ HB.out)))<|Aside0.mk (below_step (pB_ HB.out) hb);clear HO234 HO238 HB;obtain ⟨HO234,HO238,HO241,HB⟩:=n_;(try clear hb);(try clear hb2);(try clear hk);(try clear hi);(try clear ho0)))
  go_ret;exact ⟨_,by first|rfl|(simp [errW_none,errW_some] <;> rfl)|(simp [*,errW_none,errW_some] <;> rfl),by (with_reducible repeat (first|apply Kd.R_alloc|apply Kd.R_drewN|apply Kd.R_drew));exact HO241.out,pB_ HB.out⟩
 ·replace c8 := Bool.eq_false_iff.mpr c8
  subst c8; rw [if_neg (show ¬ (false = true) by decide)] at H; obtain rfl := Option.some.inj H
  go_wp2
  go_ret;exact ⟨_,by first|rfl|(simp [errW_none,errW_some] <;> rfl)|(simp [*,errW_none,errW_some] <;> rfl),by first|exact Kd.R_nil _ _ _ _ _|exact Kd.N_nil _ _ _ _ _|exact Kd.V_nil _ _ _ _ _|exact Kd.Q_nil _ _ _ _ _|exact Kd.S_nil _ _ _ _ _,pB_ HB.out⟩

/-! ### laws_eqIntS: function 8 -/
def laws_eqIntS.l0 : Nat → List Int → List Int → Int → Option (Bool)
 | 0, _, _, _ => none
 | k + 1,x0,x1,x5=>if x5 < (x0.length:Int) then (if 0≤x5 then (if x5 < (x1.length:Int) then (if (rd x0 x5)=(rd x1 x5) then (laws_eqIntS.l0 k x0 x1 (wrap64 (x5 + 1))) else (some false)) else (none)) else (none)) else (some true)
def laws_eqIntS.f (k : Nat) (l0 : List Int) (l1 : List Int) : Option (Bool) := if (l0.length : Int) = (l1.length : Int) then (laws_eqIntS.l0 k l0 l1 0) else (some false)
set_option maxHeartbeats 8000000 in
set_option maxRecDepth 100000 in
theorem laws_eqIntS.calls (k : Nat) (A0 : Option Addr) (c0 : Nat) (l0 : List Int) (A1 : Option Addr) (c1 : Nat) (l1 : List Int) (r : Bool) (w : World) (hr0 : Kd.C (Kd.int .i64) w A0 l0.length l0) (hc0 : l0.length ≤ c0) (hr1 : Kd.C (Kd.int .i64) w A1 l1.length l1) (hc1 : l1.length ≤ c1) (h : laws_eqIntS.f k l0 l1 = some r) :
  Calls Try.prog 8 #[.slice A0 l0.length c0, .slice A1 l1.length c1] w fun e w' => e = .returned (.bool r) ∧ Drawn0 w w' := by
 have HR0 := Aside0.mk hr0
 have HC0 := Aside0.mk hc0
 clear hr0 hc0
 have HR1 := Aside0.mk hr1
 have HC1 := Aside0.mk hc1
 clear hr1 hc1
 have H : (if (l0.length : Int) = (l1.length : Int) then (laws_eqIntS.l0 k l0 l1 0) else (some false)) = some r := h
 clear h
 by_cases c3 : (l0.length : Int) = (l1.length : Int)
 ·rw [if_pos c3] at H
  have c3b0 : ((l0.length : Int) == (l1.length : Int)) = true := beq_iff_eq.mpr c3; have c3b1 : ((l0.length : Int) != (l1.length : Int)) = false := bne_eq_false_iff_eq.mpr c3
  have c3b2 : (l0.length == l1.length) = true := by first | simpa using c3 | (simp at c3 ⊢; omega)
  clear c3; have H' := Aside0.mk H; clear H; go_enter Try.func8, Try.ntmps8
  go_wp2
  repeat (go_quiet (fail); try go_wp2)
  go_loopg [5] k (fun kq v5 w' => ∃ (x5_1 : Int), v5 = .int .i64 x5_1 ∧ Aside0 (laws_eqIntS.l0 kq l0 l1 x5_1 = some r) ∧ Aside0 (kq ≤ k) ∧ Drawn0 w w')
  case atStart => exact ⟨(0), Z9, H', ⟨Nat.le_refl _⟩, by repeat (first | exact Drawn0.refl _ | apply Drawn0.step)⟩
  case round =>
   clear H'
   try clear c1
   try clear p2
   try clear c3
   try clear c3b0
   try clear c3b1
   try clear c3b2
   obtain ⟨x5_1, rfl, HA, HK1, ⟨m1, rfl⟩⟩ := hrel
   cases gk with
   | zero => exact absurd HA.out (by simp [laws_eqIntS.l0])
   | succ k1 =>
    have H := HA.out; clear HA; simp only [laws_eqIntS.l0] at H
    by_cases c4 : x5_1 < (l0.length : Int)
    ·rw [if_pos c4] at H
     have c4b0 : decide (x5_1 < (l0.length : Int)) = true := decide_eq_true c4; clear c4
     by_cases c5 : 0 ≤ x5_1
     ·rw [if_pos c5] at H
      have c5b0 : decide (0 ≤ x5_1) = true := decide_eq_true c5; clear c5
      by_cases c6 : x5_1 < (l1.length : Int)
      ·rw [if_pos c6] at H
       have c6b0:decide (x5_1 < (l1.length:Int))=true:=decide_eq_true c6;clear c6;have HU7:=Aside0.mk H;clear H;have p242:0≤(x5_1:Int):=of_decide_eq_true Z8;have q242:x5_1 < (l0.length:Int):=of_decide_eq_true Z8;obtain ⟨ad242,e242,hx242_0⟩:=Kd.at_int HR0.out x5_1 p242 q242;cases e242;replace p242:=eq_true p242;replace q242:=eq_true q242;have p243:0≤(x5_1:Int):=of_decide_eq_true Z8;have q243:x5_1 < (l1.length:Int):=of_decide_eq_true Z8;obtain ⟨ad243,e243,hx243_0⟩:=Kd.at_int HR1.out x5_1 p243 q243;cases e243;replace p243:=eq_true p243;replace q243:=eq_true q243
       go_upto_if 25 with (fail)
       repeat (go_quiet (fail); go_upto_if 25 with (fail))
       have H := HU7.out; clear HU7
       by_cases c8 : (rd l0 x5_1) = (rd l1 x5_1)
       ·rw [if_pos c8] at H
        have c8b0:((rd l0 x5_1) == (rd l1 x5_1))=true:=beq_iff_eq.mpr c8;have c8b1:((rd l0 x5_1) != (rd l1 x5_1))=false:=bne_eq_false_iff_eq.mpr c8;clear c8;(first|rw [c8b0]|(simp only [i64_w,i32_w];rw [c8b0])|(have cz_:=c8b0;simp only [bne,gt_iff_lt,Int.natCast_pos] at cz_;first|rw [cz_]|(simp only [i64_w,i32_w];rw [cz_]))|skip);have H':=Aside0.mk H;clear H
        go_wp2
        repeat (go_quiet (fail); try go_wp2)
        go_roundg k1
        case measure => have := HK1.out; omega
        case rel => exact ⟨(wrap64 (x5_1 + 1)), Z9, H', ⟨by have := HK1.out; omega⟩, by repeat (first | exact Drawn0.refl _ | apply Drawn0.step)⟩
       ·rw [if_neg c8] at H
        have c8b0:((rd l0 x5_1) == (rd l1 x5_1))=false:=beq_eq_false_iff_ne.mpr c8;have c8b1:((rd l0 x5_1) != (rd l1 x5_1))=true:=bne_iff_ne.mpr c8;(first|rw [c8b0]|(simp only [i64_w,i32_w];rw [c8b0])|(have cz_:=c8b0;simp only [bne,gt_iff_lt,Int.natCast_pos] at cz_;first|rw [cz_]|(simp only [i64_w,i32_w];rw [cz_]))|skip);obtain rfl:=Option.some.inj H
        go_wp2
        repeat (go_quiet (fail); try go_wp2)
        go_ret; exact ⟨by first | rfl | (simp; done) | (simp [*]; done), by repeat (first | exact Drawn0.refl _ | apply Drawn0.step)⟩
      ·rw [if_neg c6] at H
       exact absurd H (by simp)
     ·rw [if_neg c5] at H
      exact absurd H (by simp)
    ·rw [if_neg c4] at H
     have c4b0 : decide (x5_1 < (l0.length : Int)) = false := decide_eq_false c4; clear c4; obtain rfl := Option.some.inj H
     go_wp2
     repeat (go_quiet (fail); try go_wp2)
     go_ret; exact ⟨by first | rfl | (simp; done) | (simp [*]; done), by repeat (first | exact Drawn0.refl _ | apply Drawn0.step)⟩
 ·rw [if_neg c3] at H
  have c3b0 : ((l0.length : Int) == (l1.length : Int)) = false := beq_eq_false_iff_ne.mpr c3; have c3b1 : ((l0.length : Int) != (l1.length : Int)) = true := bne_iff_ne.mpr c3
  have c3b2 : (l0.length == l1.length) = false := by first | simpa using c3 | (simp at c3 ⊢; omega)
  obtain rfl := Option.some.inj H; go_enter Try.func8, Try.ntmps8
  go_wp2
  repeat (go_quiet (fail); try go_wp2)
  go_ret; exact ⟨by first | rfl | (simp; done) | (simp [*]; done), by repeat (first | exact Drawn0.refl _ | apply Drawn0.step)⟩

/-! ### laws_eqVec: function 33 -/
def laws_eqVec.f (a0_0 : Int) (a0_1 : Int) (a0_2 : Int) (a1_0 : Int) (a1_1 : Int) (a1_2 : Int) : Option (Bool) := if a0_0 = a1_0 then (if a0_1 = a1_1 then (if a0_2 = a1_2 then (some true) else (some false)) else (some false)) else (some false)
set_option maxHeartbeats 8000000 in
set_option maxRecDepth 100000 in
theorem laws_eqVec.calls (a0_0 : Int) (a0_1 : Int) (a0_2 : Int) (a1_0 : Int) (a1_1 : Int) (a1_2 : Int) (r : Bool) (w : World) (h : laws_eqVec.f a0_0 a0_1 a0_2 a1_0 a1_1 a1_2 = some r) :
  Calls Try.prog 33 #[.agg #[.int .i64 a0_0,.int .i64 a0_1,.int .i64 a0_2],.agg #[.int .i64 a1_0,.int .i64 a1_1,.int .i64 a1_2]] w fun e w'=>e=.returned (.bool r)∧Below w.heap.size w w':=by
 have hu41 := Try.underlying41
 have HB := Aside0.mk (Below.refl w.heap.size w)
 have H : (if a0_0 = a1_0 then (if a0_1 = a1_1 then (if a0_2 = a1_2 then (some true) else (some false)) else (some false)) else (some false)) = some r := h
 clear h
 have HU3 := Aside0.mk H
 clear H
 go_enter Try.func33, Try.ntmps33
 go_upto_if 9 with (first|((with_reducible refine gate_dst (N:=2) rfl ?_);refine box_event ?hg (N:=2) ?hd (cs:=#[.int .i64 a0_0,.int .i64 a0_1,.int .i64 a0_2]) (t:=41) ?hr ?_;(case hd=>rfl);(case hg=>rfl);(case hr=>first|(go_simp;done)|(go_simp;rfl));intro gb244 hg w4 hbox hb;have n_:=an_ (below_step (pB_ HB.out) hb)<|an_ (hbox)<|an_ ((by rw [hg];exact (below_size (pB_ HB.out)):w.heap.size≤gb244))<|Aside0.mk ((by rw [hg];exact (below_size (pB_ HB.out)):w.heap.size≤gb244));clear HB;obtain ⟨HB,BK244,GW244,GE244⟩:=n_;clear hb hbox hg)|((with_reducible refine gate_dst (N:=3) rfl ?_);refine box_event ?hg (N:=3) ?hd (cs:=#[.int .i64 a1_0,.int .i64 a1_1,.int .i64 a1_2]) (t:=41) ?hr ?_;(case hd=>rfl);(case hg=>rfl);(case hr=>first|(go_simp;done)|(go_simp;rfl));intro gb245 hg w5 hbox hb;have n_:=an_ (blk_below (pk_ BK244.out) hb)<|an_ (below_step (pB_ HB.out) hb)<|an_ (hbox)<|an_ ((by rw [hg];exact (below_size (pB_ HB.out)):w.heap.size≤gb245))<|an_ ((by rw [hg];exact (below_size (pB_ HB.out)):w.heap.size≤gb245))<|an_ ((by rw [hg];exact Nat.ne_of_lt (blk_lt (pk_ BK244.out)):gb244≠gb245))<|Aside0.mk ((by rw [hg];exact Nat.ne_of_gt (blk_lt (pk_ BK244.out)):gb245≠gb244));clear BK244 HB;obtain ⟨BK244,HB,BK245,GW245,GE245,NB244_245,NB245_244⟩:=n_;clear hb hbox hg;(try have hnb6:=NB244_245.out);(try have hnc6:=NB245_244.out);have hcz7_0:w5.cell? ⟨gb244,0,none⟩=some (.int .i64 a0_0):=(blk_cell BK244.out 0).trans rfl;have hcz7_1:w5.cell? ⟨gb244,1,none⟩=some (.int .i64 a0_1):=(blk_cell BK244.out 1).trans rfl;have hcz7_2:w5.cell? ⟨gb244,2,none⟩=some (.int .i64 a0_2):=(blk_cell BK244.out 2).trans rfl;have hfz7_0:=blk_frozen BK244.out 0;have hfz7_1:=blk_frozen BK244.out 1;have hfz7_2:=blk_frozen BK244.out 2;have hcz8_0:w5.cell? ⟨gb245,0,none⟩=some (.int .i64 a1_0):=(blk_cell BK245.out 0).trans rfl;have hcz8_1:w5.cell? ⟨gb245,1,none⟩=some (.int .i64 a1_1):=(blk_cell BK245.out 1).trans rfl;have hcz8_2:w5.cell? ⟨gb245,2,none⟩=some (.int .i64 a1_2):=(blk_cell BK245.out 2).trans rfl;have hfz8_0:=blk_frozen BK245.out 0;have hfz8_1:=blk_frozen BK245.out 1;have hfz8_2:=blk_frozen BK245.out 2))
 have H := HU3.out
 clear HU3
 by_cases c9 : a0_0 = a1_0
 ·rw [if_pos c9] at H
  have c9b0:(a0_0 == a1_0)=true:=beq_iff_eq.mpr c9;have c9b1:(a0_0 != a1_0)=false:=bne_eq_false_iff_eq.mpr c9;clear c9;(first|rw [c9b0]|(simp only [i64_w,i32_w];rw [c9b0])|(have cz_:=c9b0;simp only [bne,gt_iff_lt,Int.natCast_pos] at cz_;first|rw [cz_]|(simp only [i64_w,i32_w];rw [cz_]))|skip)
  by_cases c10 : a0_1 = a1_1
  ·rw [if_pos c10] at H
   have c10b0 : (a0_1 == a1_1) = true := beq_iff_eq.mpr c10; have c10b1 : (a0_1 != a1_1) = false := bne_eq_false_iff_eq.mpr c10; clear c10
   by_cases c11 : a0_2 = a1_2
   ·rw [if_pos c11] at H
    have c11b0:(a0_2 == a1_2)=true:=beq_iff_eq.mpr c11;have c11b1:(a0_2 != a1_2)=false:=bne_eq_false_iff_eq.mpr c11;clear c11;obtain rfl:=Option.some.inj H;(try have hnb12:=NB244_245.out);(try have hnc12:=NB245_244.out);obtain ⟨hcz13_0,hcz13_1,hcz13_2,hfz13_0,hfz13_1,hfz13_2⟩:=cells3 BK244.out;obtain ⟨hcz14_0,hcz14_1,hcz14_2,hfz14_0,hfz14_1,hfz14_2⟩:=cells3 BK245.out
    go_wp2
    go_ret; exact ⟨by first | rfl | (simp [errW_none, errW_some] <;> rfl) | (simp [*, errW_none, errW_some] <;> rfl), pB_ HB.out⟩
   ·rw [if_neg c11] at H
    have c11b0:(a0_2 == a1_2)=false:=beq_eq_false_iff_ne.mpr c11;have c11b1:(a0_2 != a1_2)=true:=bne_iff_ne.mpr c11;obtain rfl:=Option.some.inj H;(try have hnb15:=NB244_245.out);(try have hnc15:=NB245_244.out);obtain ⟨hcz16_0,hcz16_1,hcz16_2,hfz16_0,hfz16_1,hfz16_2⟩:=cells3 BK244.out;obtain ⟨hcz17_0,hcz17_1,hcz17_2,hfz17_0,hfz17_1,hfz17_2⟩:=cells3 BK245.out
    go_wp2
    go_ret; exact ⟨by first | rfl | (simp [errW_none, errW_some] <;> rfl) | (simp [*, errW_none, errW_some] <;> rfl), pB_ HB.out⟩
  ·rw [if_neg c10] at H
   have c10b0:(a0_1 == a1_1)=false:=beq_eq_false_iff_ne.mpr c10;have c10b1:(a0_1 != a1_1)=true:=bne_iff_ne.mpr c10;obtain rfl:=Option.some.inj H;(try have hnb18:=NB244_245.out);(try have hnc18:=NB245_244.out);obtain ⟨hcz19_0,hcz19_1,hcz19_2,hfz19_0,hfz19_1,hfz19_2⟩:=cells3 BK244.out;obtain ⟨hcz20_0,hcz20_1,hcz20_2,hfz20_0,hfz20_1,hfz20_2⟩:=cells3 BK245.out
   go_wp2
   go_ret; exact ⟨by first | rfl | (simp [errW_none, errW_some] <;> rfl) | (simp [*, errW_none, errW_some] <;> rfl), pB_ HB.out⟩
 ·rw [if_neg c9] at H
  have c9b0:(a0_0 == a1_0)=false:=beq_eq_false_iff_ne.mpr c9;have c9b1:(a0_0 != a1_0)=true:=bne_iff_ne.mpr c9;(first|rw [c9b0]|(simp only [i64_w,i32_w];rw [c9b0])|(have cz_:=c9b0;simp only [bne,gt_iff_lt,Int.natCast_pos] at cz_;first|rw [cz_]|(simp only [i64_w,i32_w];rw [cz_]))|skip);obtain rfl:=Option.some.inj H
  go_wp2
  go_ret; exact ⟨by first | rfl | (simp [errW_none, errW_some] <;> rfl) | (simp [*, errW_none, errW_some] <;> rfl), pB_ HB.out⟩

/-! ### laws_eqDeal: function 21 -/
def laws_eqDeal.f (k : Nat) (a0_0 : Int) (a0_1 : Int) (a0_2 : Int) (a0_3 : Int) (a0_4 : Int) (l0_5 : List Int) (a1_0 : Int) (a1_1 : Int) (a1_2 : Int) (a1_3 : Int) (a1_4 : Int) (l1_5 : List Int) : Option (Bool) := if a0_0 = a1_0 then (if a0_1 = a1_1 then ((laws_eqVec.f a0_2 a0_3 a0_4 a1_2 a1_3 a1_4).bind fun t248 => (if t248 = true then ((laws_eqIntS.f k l0_5 l1_5).bind fun t249 => (if t249 = true then (some true) else (some false))) else (some false))) else (some false)) else (some false)
set_option maxHeartbeats 8000000 in
set_option maxRecDepth 100000 in
theorem laws_eqDeal.calls (k : Nat) (a0_0 : Int) (a0_1 : Int) (a0_2 : Int) (a0_3 : Int) (a0_4 : Int) (A0_5 : Option Addr) (c0_5 : Nat) (l0_5 : List Int) (a1_0 : Int) (a1_1 : Int) (a1_2 : Int) (a1_3 : Int) (a1_4 : Int) (A1_5 : Option Addr) (c1_5 : Nat) (l1_5 : List Int) (r : Bool) (w : World) (hr0_5 : Kd.C (Kd.int .i64) w A0_5 l0_5.length l0_5) (hc0_5 : l0_5.length ≤ c0_5) (hr1_5 : Kd.C (Kd.int .i64) w A1_5 l1_5.length l1_5) (hc1_5 : l1_5.length ≤ c1_5) (h : laws_eqDeal.f k a0_0 a0_1 a0_2 a0_3 a0_4 l0_5 a1_0 a1_1 a1_2 a1_3 a1_4 l1_5 = some r) :
  Calls Try.prog 21 #[.agg #[.int .i64 a0_0,.int .i64 a0_1,.int .i64 a0_2,.int .i64 a0_3,.int .i64 a0_4,.slice A0_5 l0_5.length c0_5],.agg #[.int .i64 a1_0,.int .i64 a1_1,.int .i64 a1_2,.int .i64 a1_3,.int .i64 a1_4,.slice A1_5 l1_5.length c1_5]] w fun e w'=>e=.returned (.bool r)∧Below w.heap.size w w':=by
 have hu43 := Try.underlying43
 have hu41 := Try.underlying41
 have HR0_5 := Aside0.mk hr0_5
 have HC0_5 := Aside0.mk hc0_5
 clear hr0_5 hc0_5
 have HR1_5 := Aside0.mk hr1_5
 have HC1_5 := Aside0.mk hc1_5
 clear hr1_5 hc1_5
 have HB := Aside0.mk (Below.refl w.heap.size w)
 have H:(if a0_0=a1_0 then (if a0_1=a1_1 then ((laws_eqVec.f a0_2 a0_3 a0_4 a1_2 a1_3 a1_4).bind fun t248=>(if t248=true then ((laws_eqIntS.f k l0_5 l1_5).bind fun t249=>(if t249=true then (some true) else (some false))) else (some false))) else (some false)) else (some false))=some r:=h
 clear h
 have HU3 := Aside0.mk H
 clear H
 go_enter Try.func21, Try.ntmps21
 go_upto_if 9 with (first|((with_reducible refine gate_dst (N:=2) rfl ?_);refine box_event ?hg (N:=2) ?hd (cs:=#[.int .i64 a0_0,.int .i64 a0_1,.int .i64 a0_2,.int .i64 a0_3,.int .i64 a0_4,.slice A0_5 l0_5.length c0_5]) (t:=43) ?hr ?_;(case hd=>rfl);(case hg=>rfl);(case hr=>first|(go_simp;done)|(go_simp;rfl));intro gb246 hg w4 hbox hb;have n_:=an_ (below_step (pB_ HB.out) hb)<|an_ (hbox)<|an_ ((by rw [hg];exact (below_size (pB_ HB.out)):w.heap.size≤gb246))<|Aside0.mk ((by rw [hg];exact (below_size (pB_ HB.out)):w.heap.size≤gb246));clear HB;obtain ⟨HB,BK246,GW246,GE246⟩:=n_;clear hb hbox hg)|((with_reducible refine gate_dst (N:=3) rfl ?_);refine box_event ?hg (N:=3) ?hd (cs:=#[.int .i64 a1_0,.int .i64 a1_1,.int .i64 a1_2,.int .i64 a1_3,.int .i64 a1_4,.slice A1_5 l1_5.length c1_5]) (t:=43) ?hr ?_;(case hd=>rfl);(case hg=>rfl);(case hr=>first|(go_simp;done)|(go_simp;rfl));intro gb247 hg w5 hbox hb;have n_:=an_ (blk_below (pk_ BK246.out) hb)<|an_ (below_step (pB_ HB.out) hb)<|an_ (hbox)<|an_ ((by rw [hg];exact (below_size (pB_ HB.out)):w.heap.size≤gb247))<|an_ ((by rw [hg];exact (below_size (pB_ HB.out)):w.heap.size≤gb247))<|an_ ((by rw [hg];exact Nat.ne_of_lt (blk_lt (pk_ BK246.out)):gb246≠gb247))<|Aside0.mk ((by rw [hg];exact Nat.ne_of_gt (blk_lt (pk_ BK246.out)):gb247≠gb246));clear BK246 HB;obtain ⟨BK246,HB,BK247,GW247,GE247,NB246_247,NB247_246⟩:=n_;clear hb hbox hg;(try have hnb6:=NB246_247.out);(try have hnc6:=NB247_246.out);have hcz7_0:w5.cell? ⟨gb246,0,none⟩=some (.int .i64 a0_0):=(blk_cell BK246.out 0).trans rfl;have hcz7_1:w5.cell? ⟨gb246,1,none⟩=some (.int .i64 a0_1):=(blk_cell BK246.out 1).trans rfl;have hcz7_2:w5.cell? ⟨gb246,2,none⟩=some (.int .i64 a0_2):=(blk_cell BK246.out 2).trans rfl;have hcz7_3:w5.cell? ⟨gb246,3,none⟩=some (.int .i64 a0_3):=(blk_cell BK246.out 3).trans rfl;have hcz7_4:w5.cell? ⟨gb246,4,none⟩=some (.int .i64 a0_4):=(blk_cell BK246.out 4).trans rfl;have hcz7_5:w5.cell? ⟨gb246,5,none⟩=some (.slice A0_5 l0_5.length c0_5):=(blk_cell BK246.out 5).trans rfl;have hfz7_0:=blk_frozen BK246.out 0;have hfz7_1:=blk_frozen BK246.out 1;have hfz7_2:=blk_frozen BK246.out 2;have hfz7_3:=blk_frozen BK246.out 3;have hfz7_4:=blk_frozen BK246.out 4;have hfz7_5:=blk_frozen BK246.out 5;have hcz8_0:w5.cell? ⟨gb247,0,none⟩=some (.int .i64 a1_0):=(blk_cell BK247.out 0).trans rfl;have hcz8_1:w5.cell? ⟨gb247,1,none⟩=some (.int .i64 a1_1):=(blk_cell BK247.out 1).trans rfl;have hcz8_2:w5.cell? ⟨gb247,2,none⟩=some (.int .i64 a1_2):=(blk_cell BK247.out 2).trans rfl;have hcz8_3:w5.cell? ⟨gb247,3,none⟩=some (.int .i64 a1_3):=(blk_cell BK247.out 3).trans rfl;have hcz8_4:w5.cell? ⟨gb247,4,none⟩=some (.int .i64 a1_4):=(blk_cell BK247.out 4).trans rfl;have hcz8_5:w5.cell? ⟨gb247,5,none⟩=some (.slice A1_5 l1_5.length c1_5):=(blk_cell BK247.out 5).trans rfl;have hfz8_0:=blk_frozen BK247.out 0;have hfz8_1:=blk_frozen BK247.out 1;have hfz8_2:=blk_frozen BK247.out 2;have hfz8_3:=blk_frozen BK247.out 3;have hfz8_4:=blk_frozen BK247.out 4;have hfz8_5:=blk_frozen BK247.out 5))
 have H := HU3.out
 clear HU3
 by_cases c9 : a0_0 = a1_0
 ·rw [if_pos c9] at H
  have c9b0:(a0_0 == a1_0)=true:=beq_iff_eq.mpr c9;have c9b1:(a0_0 != a1_0)=false:=bne_eq_false_iff_eq.mpr c9;clear c9;(first|rw [c9b0]|(simp only [i64_w,i32_w];rw [c9b0])|(have cz_:=c9b0;simp only [bne,gt_iff_lt,Int.natCast_pos] at cz_;first|rw [cz_]|(simp only [i64_w,i32_w];rw [cz_]))|skip)
  by_cases c10 : a0_1 = a1_1
  ·rw [if_pos c10] at H
   have c10b0:(a0_1 == a1_1)=true:=beq_iff_eq.mpr c10;have c10b1:(a0_1 != a1_1)=false:=bne_eq_false_iff_eq.mpr c10;clear c10;obtain ⟨t248,A110,H⟩:=Option.bind_eq_some_iff.mp H;(try dsimp only at H);have A11:=Aside0.mk A110;clear A110;have HU12:=Aside0.mk H;clear H;(try have hnb13:=NB246_247.out);(try have hnc13:=NB247_246.out);obtain ⟨hcz14_0,hcz14_1,hcz14_2,hcz14_3,hcz14_4,hcz14_5,hfz14_0,hfz14_1,hfz14_2,hfz14_3,hfz14_4,hfz14_5⟩:=cells6 BK246.out;obtain ⟨hcz15_0,hcz15_1,hcz15_2,hcz15_3,hcz15_4,hcz15_5,hfz15_0,hfz15_1,hfz15_2,hfz15_3,hfz15_4,hfz15_5⟩:=cells6 BK247.out
   go_upto_if 20 with (first|((with_reducible refine gate_callee (f:=33) rfl ?_);refine goesL_ (some 19) rfl rfl Try.func33 (by kernel_rfl) rfl #[.agg #[.int .i64 a0_2,.int .i64 a0_3,.int .i64 a0_4],.agg #[.int .i64 a1_2,.int .i64 a1_3,.int .i64 a1_4]] rfl Z2 ?_;(with_reducible refine (laws_eqVec.calls a0_2 a0_3 a0_4 a1_2 a1_3 a1_4 t248 _ A11.out).mono ?_);rintro e w16 ⟨rfl,hb⟩;refine ⟨_,rfl,?_⟩;have n_:=an_ (blk_below (pk_ BK246.out) hb)<|an_ (blk_below (pk_ BK247.out) hb)<|Aside0.mk (below_step (pB_ HB.out) hb);clear BK246 BK247 HB;obtain ⟨BK246,BK247,HB⟩:=n_;(try clear hb);(try clear hb2);(try clear hk);(try clear hi)))
   have H := HU12.out; clear HU12
   by_cases c17 : t248 = true
   ·subst c17
    rw [if_pos rfl] at H;obtain ⟨t249,A180,H⟩:=Option.bind_eq_some_iff.mp H;(try dsimp only at H);have A18:=Aside0.mk A180;clear A180;have HU19:=Aside0.mk H;clear H;(try have hnb20:=NB246_247.out);(try have hnc20:=NB247_246.out);obtain ⟨hcz21_0,hcz21_1,hcz21_2,hcz21_3,hcz21_4,hcz21_5,hfz21_0,hfz21_1,hfz21_2,hfz21_3,hfz21_4,hfz21_5⟩:=cells6 BK246.out;obtain ⟨hcz22_0,hcz22_1,hcz22_2,hcz22_3,hcz22_4,hcz22_5,hfz22_0,hfz22_1,hfz22_2,hfz22_3,hfz22_4,hfz22_5⟩:=cells6 BK247.out
    go_upto_if 26 with (first|((with_reducible refine gate_callee (f:=8) rfl ?_);refine goesL_ (some 25) rfl rfl Try.func8 (by kernel_rfl) rfl #[.slice A0_5 l0_5.length c0_5,.slice A1_5 l1_5.length c1_5] rfl Z2 ?_;(with_reducible refine (laws_eqIntS.calls k _ _ l0_5 _ _ l1_5 t249 _ ?side1 ?side2 ?side3 ?side4 A18.out).mono ?_);(case side1=>exact pC_ (Kd.C_below HR0_5.out HB.out));(case side2=>exact HC0_5.out);(case side3=>exact pC_ (Kd.C_below HR1_5.out HB.out));(case side4=>exact HC1_5.out);rintro e w' ⟨rfl,⟨nd,rfl⟩⟩;refine ⟨_,rfl,?_⟩))
    have H := HU19.out; clear HU19
    by_cases c23 : t249 = true
    ·subst c23
     rw [if_pos rfl] at H; obtain rfl := Option.some.inj H
     go_wp2
     go_ret; exact ⟨by first | rfl | (simp [errW_none, errW_some] <;> rfl) | (simp [*, errW_none, errW_some] <;> rfl), pB_ HB.out⟩
    ·replace c23 := Bool.eq_false_iff.mpr c23
     subst c23; rw [if_neg (show ¬ (false = true) by decide)] at H; obtain rfl := Option.some.inj H
     go_wp2
     go_ret; exact ⟨by first | rfl | (simp [errW_none, errW_some] <;> rfl) | (simp [*, errW_none, errW_some] <;> rfl), pB_ HB.out⟩
   ·replace c17 := Bool.eq_false_iff.mpr c17
    subst c17; rw [if_neg (show ¬ (false = true) by decide)] at H; obtain rfl := Option.some.inj H
    go_wp2
    go_ret; exact ⟨by first | rfl | (simp [errW_none, errW_some] <;> rfl) | (simp [*, errW_none, errW_some] <;> rfl), pB_ HB.out⟩
  ·rw [if_neg c10] at H
   have c10b0:(a0_1 == a1_1)=false:=beq_eq_false_iff_ne.mpr c10;have c10b1:(a0_1 != a1_1)=true:=bne_iff_ne.mpr c10;obtain rfl:=Option.some.inj H;(try have hnb24:=NB246_247.out);(try have hnc24:=NB247_246.out);obtain ⟨hcz25_0,hcz25_1,hcz25_2,hcz25_3,hcz25_4,hcz25_5,hfz25_0,hfz25_1,hfz25_2,hfz25_3,hfz25_4,hfz25_5⟩:=cells6 BK246.out;obtain ⟨hcz26_0,hcz26_1,hcz26_2,hcz26_3,hcz26_4,hcz26_5,hfz26_0,hfz26_1,hfz26_2,hfz26_3,hfz26_4,hfz26_5⟩:=cells6 BK247.out
   go_wp2
   go_ret; exact ⟨by first | rfl | (simp [errW_none, errW_some] <;> rfl) | (simp [*, errW_none, errW_some] <;> rfl), pB_ HB.out⟩
 ·rw [if_neg c9] at H
  have c9b0:(a0_0 == a1_0)=false:=beq_eq_false_iff_ne.mpr c9;have c9b1:(a0_0 != a1_0)=true:=bne_iff_ne.mpr c9;(first|rw [c9b0]|(simp only [i64_w,i32_w];rw [c9b0])|(have cz_:=c9b0;simp only [bne,gt_iff_lt,Int.natCast_pos] at cz_;first|rw [cz_]|(simp only [i64_w,i32_w];rw [cz_]))|skip);obtain rfl:=Option.some.inj H
  go_wp2
  go_ret; exact ⟨by first | rfl | (simp [errW_none, errW_some] <;> rfl) | (simp [*, errW_none, errW_some] <;> rfl), pB_ HB.out⟩

end Go.Proofs.Ytecabogkenabnac.PFnExactMains
