-- by a program of this session's, over the kit's words
import Derived.Test.YtcdangcjbijfkabPZFnExactLinePut
import Derived.Test.YtcdangcjbijfkabPFnExactLinePutx0
import Derived.Test.YtcdangcjbijfkabPFnExactLinePutx5
import Derived.Test.YtcdangcjbijfkabPFnExactLinePutx6
namespace Go.Proofs.Ytcdangcjbijfkab.PFnExactLinePut
open Go.RowKit Go.Proofs.YtcdangcjbijfkabW.PrintWords Go.Proofs.YtcdangcjbijfkabW.PrintLast Go.Proofs.YtcdangcjbijfkabW.PrintMore Go.Proofs.YtcdangcjbijfkabV Go.Proofs.Ytcdangcjbijfkab.ZFnExactLinePut
attribute [local go_sem] max2_int min2_int max_two min_two max_three min_three max_four min_four   -- for this text's walks alone
set_option linter.unusedVariables false
set_option linter.unusedSimpArgs false

/-! ### impl_LineOk: function 19 -/
mutual
def impl_LineOk.j0 : Nat → Bool → Int → List (S38) → List (S38) → List (S38) → Option (Bool)
 | 0, _, _, _, _, _ => none
 | k + 1,x18,x233000,x233001,x233002,x233003=>if x18=true then (some false) else ((impl_Line_jobs.f k x233000 x233001 x233002 x233003).bind fun t238=>(impl_LineOk.l0 k t238 (t238.length:Int) 0 x233000 x233001 x233002 x233003 ([]:List (Int × Bool))))
def impl_LineOk.l0 : Nat → List (S38) → Int → Int → Int → List (S38) → List (S38) → List (S38) → List (Int × Bool) → Option (Bool)
 | 0, _, _, _, _, _, _, _, _ => none
 | k + 1,x21,x22,x23,x233000,x233001,x233002,x233003,x238000=>if x23 < x22 then (if 0≤x23 then (if x23 < (x21.length:Int) then ((impl_CostOk.f ((rd_T38 x21 x23).f1.f0) ((rd_T38 x21 x23).f1.f1) ((rd_T38 x21 x23).f1.f2)).bind fun t243=>(if x23 ≥ (wrap64 ((x233001.length:Int) + (x233002.length:Int))) then (if ((rd_T38 x21 x23).f1.f0)=0 then (if ((rd_T38 x21 x23).f1.f1)=0 then ((impl_isNeed.f ((rd_T38 x21 x23).f1.f2)).bind fun t244=>(if t244=true then ((impl_within.f ((rd_T38 x21 x23).f0) 0 1000000000000).bind fun t245=>(if t245=true then (if mlook false x238000 ((rd_T38 x21 x23).f0)=true then (some false) else (impl_LineOk.l0 k x21 x22 (wrap64 (x23 + 1)) x233000 x233001 x233002 x233003 (mput x238000 ((rd_T38 x21 x23).f0) true))) else (some false))) else (some false))) else (some false)) else (some false)) else (if x23 ≥ (x233001.length:Int) then (if ((rd_T38 x21 x23).f1.f0)=0 then ((impl_isNeed.f ((rd_T38 x21 x23).f1.f1)).bind fun t246=>(if t246=true then ((impl_isNeed.f ((rd_T38 x21 x23).f1.f2)).bind fun t247=>(if t247=true then ((impl_within.f ((rd_T38 x21 x23).f0) 0 1000000000000).bind fun t248=>(if t248=true then (if mlook false x238000 ((rd_T38 x21 x23).f0)=true then (some false) else (impl_LineOk.l0 k x21 x22 (wrap64 (x23 + 1)) x233000 x233001 x233002 x233003 (mput x238000 ((rd_T38 x21 x23).f0) true))) else (some false))) else (some false))) else (some false))) else (some false)) else (if t243=true then ((impl_within.f ((rd_T38 x21 x23).f0) 0 1000000000000).bind fun t249=>(if t249=true then (if mlook false x238000 ((rd_T38 x21 x23).f0)=true then (some false) else (impl_LineOk.l0 k x21 x22 (wrap64 (x23 + 1)) x233000 x233001 x233002 x233003 (mput x238000 ((rd_T38 x21 x23).f0) true))) else (some false))) else (some false))))) else (none)) else (none)) else (some true)
end
def impl_LineOk.f (k : Nat) (a0_0 : Int) (l0_1 : List (S38)) (l0_2 : List (S38)) (l0_3 : List (S38)) : Option (Bool) := (impl_within.f a0_0 1 16).bind fun t233 => (if t233 = true then ((impl_Line_jobs.f k a0_0 l0_1 l0_2 l0_3).bind fun t234 => (impl_LineOk.j0 k (decide ((t234.length : Int) > a0_0)) a0_0 l0_1 l0_2 l0_3)) else (impl_LineOk.j0 k true a0_0 l0_1 l0_2 l0_3))
def impl_LineOk.T1 : Bool × List (List Nat × List Nat) := (true, [([], []), ([0], [0]), ([1], [1]), ([2], [2]), ([3, 2], [3]), ([4], [4]), ([5, 4, 4], [4, 5]), ([6, 4], [4, 6]), ([4], [4]), ([8, 4], [4, 8]), ([7, 9, 4], [4, 7, 9]), ([4, 10], [4, 10])])
def impl_LineOk.B1 : List Nat := [0, 1, 3, 7, 15, 31, 63, 127, 31, 287, 1023, 2047]
theorem impl_LineOk.tab1 : rtab .any (opsOf Try.f19 1) = impl_LineOk.T1 := by kernel_rfl
theorem impl_LineOk.bits1 : waitsOk impl_LineOk.T1.2 impl_LineOk.B1 = true := by kernel_rfl
set_option maxHeartbeats 8000000 in
set_option maxRecDepth 100000 in
theorem impl_LineOk.calls (k : Nat) (a0_0 : Int) (A0_1 : Option Addr) (c0_1 : Nat) (l0_1 : List (S38)) (A0_2 : Option Addr) (c0_2 : Nat) (l0_2 : List (S38)) (A0_3 : Option Addr) (c0_3 : Nat) (l0_3 : List (S38)) (r : Bool) (w : World) (hr0_1 : Kd.C k38 w A0_1 l0_1.length l0_1) (hc0_1 : l0_1.length ≤ c0_1) (hr0_2 : Kd.C k38 w A0_2 l0_2.length l0_2) (hc0_2 : l0_2.length ≤ c0_2) (hr0_3 : Kd.C k38 w A0_3 l0_3.length l0_3) (hc0_3 : l0_3.length ≤ c0_3) (h : impl_LineOk.f k a0_0 l0_1 l0_2 l0_3 = some r) :
  Calls Try.prog 19 #[.agg #[.int .i64 a0_0,.slice A0_1 l0_1.length c0_1,.slice A0_2 l0_2.length c0_2,.slice A0_3 l0_3.length c0_3]] w fun e w'=>e=.returned (.bool r)∧Below w.heap.size w w':=by
 have hu32 := Try.underlying32
 have hu38 := Try.underlying38
 have hu36 := Try.underlying36
 have HR0_1 := Aside0.mk hr0_1
 have HC0_1 := Aside0.mk hc0_1
 clear hr0_1 hc0_1
 have HR0_2 := Aside0.mk hr0_2
 have HC0_2 := Aside0.mk hc0_2
 clear hr0_2 hc0_2
 have HR0_3 := Aside0.mk hr0_3
 have HC0_3 := Aside0.mk hc0_3
 clear hr0_3 hc0_3
 have HB := Aside0.mk (Below.refl w.heap.size w)
 have H:((impl_within.f a0_0 1 16).bind fun Ud=>(if Ud=true then ((impl_Line_jobs.f k a0_0 l0_1 l0_2 l0_3).bind fun Md=>(impl_LineOk.j0 k (decide ((Md.length:Int) > a0_0)) a0_0 l0_1 l0_2 l0_3)) else (impl_LineOk.j0 k true a0_0 l0_1 l0_2 l0_3)))=some r:=h
 clear h
 have HC2 := Aside0.mk H
 clear H
 go_enter Try.func19, Try.ntmps19
 go_upto_region 1 with (first|((with_reducible refine gate_dst (N:=1) rfl ?_);(try (refine gate_guard (by rfl) ?_;dsimp only));refine box_event ?hg (N:=1) ?hd (cs:=#[.int .i64 a0_0,.slice A0_1 l0_1.length c0_1,.slice A0_2 l0_2.length c0_2,.slice A0_3 l0_3.length c0_3]) (t:=32) ?hr ?_;(case hd=>rfl);(case hg=>rfl);(case hr=>first|(go_simp;done)|(go_simp;rfl));intro Xa hg w3 hbox hb;have n_:=an_ (below_step (pB_ HB.out) hb)<|an_ (hbox)<|an_ ((by rw [hg];exact (below_size (pB_ HB.out)):w.heap.size≤Xa))<|Aside0.mk ((by rw [hg];exact (below_size (pB_ HB.out)):w.heap.size≤Xa));clear HB;obtain ⟨HB,Ka,Kh,Oc⟩:=n_;clear hb hbox hg))
 (try simp only [Act.put, List.setIfInBounds_toArray, List.set_cons_zero, List.set_cons_succ])
 go_cut [18] (fun v18 wc=>∃ (kq:Nat) (Od:Bool),v18=.bool Od∧Aside0 (impl_LineOk.j0 kq Od a0_0 l0_1 l0_2 l0_3=some r)∧Aside0 (kq≤k)∧Aside0 (wc.heap[Xa]?=some (.cells #[.int .i64 a0_0,(.slice A0_1 l0_1.length c0_1),(.slice A0_2 l0_2.length c0_2),(.slice A0_3 l0_3.length c0_3)] 32 (0,0)))∧Aside0 (Below w.heap.size w wc))
 case first =>
  have H := HC2.out; clear HC2; obtain ⟨Ud, A40, H⟩ := Option.bind_eq_some_iff.mp H; (try dsimp only at H); have A4 := Aside0.mk A40; clear A40
  by_cases c5 : Ud = true
  ·subst c5
   rw [if_pos rfl] at H; obtain ⟨Md, A60, H⟩ := Option.bind_eq_some_iff.mp H; (try dsimp only at H); have A6 := Aside0.mk A60; clear A60; have H' := Aside0.mk H; clear H
   try go_wp2
   have n_ := an_ (blk_drew Ka.out) <| Aside0.mk (below_drew1 HB.out)
   clear Ka HB;obtain ⟨Ka,HB⟩:=n_;refine start_ (n:=12) (S:=fun w'=>w'.cell? ⟨Xa,0,none⟩=some (.int .i64 a0_0)∧w'.cell? ⟨Xa,1,none⟩=some (.slice A0_1 l0_1.length c0_1)∧w'.cell? ⟨Xa,2,none⟩=some (.slice A0_2 l0_2.length c0_2)∧w'.cell? ⟨Xa,3,none⟩=some (.slice A0_3 l0_3.length c0_3)) (ds:=[]) (bz 12 0) (by kernel_rfl) rfl (by kernel_rfl) ⟨(blk_cell Ka.out 0).trans rfl,(blk_cell Ka.out 1).trans rfl,(blk_cell Ka.out 2).trans rfl,(blk_cell Ka.out 3).trans rfl⟩ (fun hHeld=>?_);refine with_tabW impl_LineOk.tab1 impl_LineOk.bits1 (fun HT_ HW_=>?_);generalize w3.drew=w7 at Ka HB hHeld ⊢;refine px_ (i:=0) (N:=some 7) (bz 12 1) (any_of HT_.out (by kernel_rfl)) ?_;refine tx_ (i:=1) (N:=some 8) (bz 12 3) rfl rfl (take_ofW HT_.out HW_.out (by kernel_rfl)) hHeld Z26 ?_;refine one_ (i:=2) (N:=some 9) (bz 12 7) rfl rfl (one_of HT_.out (by kernel_rfl)) (by decide) (fun K hK=>?_);refine goes_ Try.func21 (by kernel_rfl) rfl #[.int .i64 a0_0,.int .i64 1,.int .i64 16] (by rfl) rfl rfl Z22 ?_;with_reducible refine (impl_within.calls a0_0 1 16 true _ A4.out).mono ?_
   rintro e w' ⟨rfl,⟨nd,rfl⟩⟩;refine ⟨_,rfl,?_⟩;refine hK.out _ _ ⟨(blk_cell Ka.out 0).trans rfl,(blk_cell Ka.out 1).trans rfl,(blk_cell Ka.out 2).trans rfl,(blk_cell Ka.out 3).trans rfl⟩ (fun hHeld=>?_);clear hK K;refine nx_ (N:=some 9) ?_;refine px_ (i:=3) (N:=some 10) (bz 12 15) (any_of HT_.out (by kernel_rfl)) ?_;refine px_ (i:=4) (N:=some 11) (bz 12 31) (any_of HT_.out (by kernel_rfl)) ?_;refine px_ (i:=8) (N:=some 15) (bz 12 287) (any_of HT_.out (by kernel_rfl)) ?_;refine tx_ (i:=5) (N:=some 12) (bz 12 319) rfl rfl (take_ofW HT_.out HW_.out (by kernel_rfl)) hHeld Z26 ?_;refine tx_ (i:=9) (N:=some 16) (bz 12 831) rfl rfl (take_ofW HT_.out HW_.out (by kernel_rfl)) hHeld Z26 ?_;refine one_ (i:=6) (N:=some 13) (bz 12 895) rfl rfl (one_of HT_.out (by kernel_rfl)) (by decide) (fun K hK=>?_);refine goes_ Try.func23 (by kernel_rfl) rfl #[.agg #[.int .i64 a0_0,.slice A0_1 l0_1.length c0_1,.slice A0_2 l0_2.length c0_2,.slice A0_3 l0_3.length c0_3]] (by rfl) rfl rfl Z22 ?_;with_reducible refine (impl_Line_jobs.calls k a0_0 (fun k_=>k_ < w.heap.size) _ _ l0_1 (fun k_=>k_ < w.heap.size) _ _ l0_2 (fun k_=>k_ < w.heap.size) _ _ l0_3 Md _ ?side1 ?side2 ?side3 A6.out).mono ?_
   (case side1=>exact Kd.V_mk HC0_1.out (Kd.F_below (Kd.C_F k38_heap HR0_1.out) (pB_ HB.out)));(case side2=>exact Kd.V_mk HC0_2.out (Kd.F_below (Kd.C_F k38_heap HR0_2.out) (pB_ HB.out)));(case side3=>exact Kd.V_mk HC0_3.out (Kd.F_below (Kd.C_F k38_heap HR0_3.out) (pB_ HB.out)));rintro e w8 ⟨Mh,rfl,ho0,hb⟩;refine ⟨_,rfl,?_⟩
   have n_ := an_ (Kd.R_lower (Kd.R_mono (ok' := fun k_ => True) ho0 (fun _ hk_ => trivial)) (below_size (pB_ HB.out))) <| an_ (blk_below (pk_ Ka.out) hb) <| Aside0.mk (below_step (pB_ HB.out) hb)
   clear Ka HB;obtain ⟨Ke,Ka,HB⟩:=n_;(try clear hb);(try clear hb2);(try clear hk);(try clear hi);(try clear ho0);obtain ⟨Oh,Uh,eo9⟩:=Kd.R_slice Ke.out;(first|subst eo9|obtain ⟨rfl,rfl⟩:=sl_inj eo9);refine hK.out _ _ ⟨(blk_cell Ka.out 0).trans rfl,(blk_cell Ka.out 1).trans rfl,(blk_cell Ka.out 2).trans rfl,(blk_cell Ka.out 3).trans rfl⟩ (fun hHeld=>?_);clear hK K;refine nx_ (N:=some 13) ?_;refine px_ (i:=7) (N:=some 14) (bz 12 1023) (any_of HT_.out (by kernel_rfl)) ?_;refine px_ (i:=10) (N:=some 17) (bz 12 2047) (any_of HT_.out (by kernel_rfl)) ?_;refine px_ (i:=11) (N:=some 18) (bz 12 4095) (any_of HT_.out (by kernel_rfl)) ?_;refine done_ (done_of HT_.out (by kernel_rfl)) ?_
   try go_wp2
   go_meet
   case rel => exact ⟨_, (decide ((Md.length : Int) > a0_0)), Z28, H', ⟨by first | omega | exact Nat.le_refl _⟩, ⟨pk_ Ka.out⟩, ⟨pB_ HB.out⟩⟩
  ·replace c5 := Bool.eq_false_iff.mpr c5
   subst c5; rw [if_neg (show ¬ (false = true) by decide)] at H; have H' := Aside0.mk H; clear H
   try go_wp2
   have n_ := an_ (blk_drew Ka.out) <| Aside0.mk (below_drew1 HB.out)
   clear Ka HB;obtain ⟨Ka,HB⟩:=n_;refine start_ (n:=12) (S:=fun w'=>w'.cell? ⟨Xa,0,none⟩=some (.int .i64 a0_0)∧w'.cell? ⟨Xa,1,none⟩=some (.slice A0_1 l0_1.length c0_1)∧w'.cell? ⟨Xa,2,none⟩=some (.slice A0_2 l0_2.length c0_2)∧w'.cell? ⟨Xa,3,none⟩=some (.slice A0_3 l0_3.length c0_3)) (ds:=[]) (bz 12 0) (by kernel_rfl) rfl (by kernel_rfl) ⟨(blk_cell Ka.out 0).trans rfl,(blk_cell Ka.out 1).trans rfl,(blk_cell Ka.out 2).trans rfl,(blk_cell Ka.out 3).trans rfl⟩ (fun hHeld=>?_);refine with_tabW impl_LineOk.tab1 impl_LineOk.bits1 (fun HT_ HW_=>?_);generalize w3.drew=w10 at Ka HB hHeld ⊢;refine px_ (i:=0) (N:=some 7) (bz 12 1) (any_of HT_.out (by kernel_rfl)) ?_;refine tx_ (i:=1) (N:=some 8) (bz 12 3) rfl rfl (take_ofW HT_.out HW_.out (by kernel_rfl)) hHeld Z26 ?_;refine one_ (i:=2) (N:=some 9) (bz 12 7) rfl rfl (one_of HT_.out (by kernel_rfl)) (by decide) (fun K hK=>?_);refine goes_ Try.func21 (by kernel_rfl) rfl #[.int .i64 a0_0,.int .i64 1,.int .i64 16] (by rfl) rfl rfl Z22 ?_;with_reducible refine (impl_within.calls a0_0 1 16 false _ A4.out).mono ?_
   rintro e w' ⟨rfl,⟨nd,rfl⟩⟩;refine ⟨_,rfl,?_⟩;refine hK.out _ _ ⟨(blk_cell Ka.out 0).trans rfl,(blk_cell Ka.out 1).trans rfl,(blk_cell Ka.out 2).trans rfl,(blk_cell Ka.out 3).trans rfl⟩ (fun hHeld=>?_);clear hK K;refine nx_ (N:=some 9) ?_;refine px_ (i:=3) (N:=some 10) (bz 12 15) (any_of HT_.out (by kernel_rfl)) ?_;refine px_ (i:=4) (N:=some 11) (bz 12 31) (any_of HT_.out (by kernel_rfl)) ?_;refine ox_ (i:=5) (N:=some 12) (bz 12 63) (any_of HT_.out (by kernel_rfl)) ?_;refine ox_ (i:=6) (N:=some 13) (bz 12 127) (any_of HT_.out (by kernel_rfl)) ?_;refine ox_ (i:=7) (N:=some 14) (bz 12 255) (any_of HT_.out (by kernel_rfl)) ?_;refine ox_ (i:=8) (N:=some 15) (bz 12 511) (any_of HT_.out (by kernel_rfl)) ?_;refine ox_ (i:=9) (N:=some 16) (bz 12 1023) (any_of HT_.out (by kernel_rfl)) ?_;refine ox_ (i:=10) (N:=some 17) (bz 12 2047) (any_of HT_.out (by kernel_rfl)) ?_;refine px_ (i:=11) (N:=some 18) (bz 12 4095) (any_of HT_.out (by kernel_rfl)) ?_;refine done_ (done_of HT_.out (by kernel_rfl)) ?_
   try go_wp2
   go_meet
   case rel => exact ⟨_, (true), Z28, H', ⟨by first | omega | exact Nat.le_refl _⟩, ⟨pk_ Ka.out⟩, ⟨pB_ HB.out⟩⟩
 case rest =>
  clear HC2
  try clear c1
  try clear c2
  try clear p2
  try clear c5
  obtain ⟨kq, Od, rfl, HA, HJ1, Ka, HB⟩ := hcut
  cases kq with
  | zero => exact absurd HA.out (by simp [impl_LineOk.j0])
  | succ kj1 =>
   have H := HA.out; clear HA; simp only [impl_LineOk.j0] at H
   by_cases c11 : Od = true
   ·subst c11
    rw [if_pos rfl] at H; obtain rfl := Option.some.inj H
    go_wp2
    go_ret;exact ⟨by first|rfl|(simp [errW_none,errW_some] <;> rfl)|(simp [*,errW_none,errW_some] <;> rfl),by repeat (first|(with_reducible first|exact HB.out|apply below_alloc|apply pw_below_drewN|apply below_drew1|refine below_set ?_ Oc.out)|exact HB.out)⟩
   ·replace c11 := Bool.eq_false_iff.mpr c11
    subst c11;rw [if_neg (show ¬ (false=true) by decide)] at H;obtain ⟨Ma,A120,H⟩:=Option.bind_eq_some_iff.mp H;(try dsimp only at H);have A12:=Aside0.mk A120;clear A120;have H':=Aside0.mk H;clear H
    go_wp2_with (first|((with_reducible refine gate_dst (N:=19) rfl ?_);(try (refine gate_guard (by rfl) ?_;dsimp only));refine map_event ?hg (N:=19) ?hd (t:=57) Value.bool ?ho ?_;(case hd=>rfl);(case hg=>rfl);(case ho=>rfl);intro Kb hg w13 hbox hb;have n_:=an_ (blk_below (pk_ Ka.out) hb)<|an_ (below_step (pB_ HB.out) hb)<|an_ (hbox)<|an_ ((by rw [hg];exact (below_size (pB_ HB.out)):w.heap.size≤Kb))<|an_ ((by rw [hg];exact (below_size (pB_ HB.out)):w.heap.size≤Kb))<|an_ ((by rw [hg];exact Nat.ne_of_lt (blk_lt (pk_ Ka.out)):Xa≠Kb))<|Aside0.mk ((by rw [hg];exact Nat.ne_of_gt (blk_lt (pk_ Ka.out)):Kb≠Xa));clear Ka HB;obtain ⟨Ka,HB,Ua,Xh,Jc,Uc,Jd⟩:=n_;clear hb hbox hg;(try have hnb14:=Uc.out);(try have hnc14:=Jd.out);have Me:w13.cell? ⟨Xa,0,none⟩=some (.int .i64 a0_0):=(blk_cell Ka.out 0).trans rfl;have Oe:w13.cell? ⟨Xa,1,none⟩=some (.slice A0_1 l0_1.length c0_1):=(blk_cell Ka.out 1).trans rfl;have Ue:w13.cell? ⟨Xa,2,none⟩=some (.slice A0_2 l0_2.length c0_2):=(blk_cell Ka.out 2).trans rfl;have Xe:w13.cell? ⟨Xa,3,none⟩=some (.slice A0_3 l0_3.length c0_3):=(blk_cell Ka.out 3).trans rfl;have Jf:=blk_frozen Ka.out 0;have Kf:=blk_frozen Ka.out 1;have Mf:=blk_frozen Ka.out 2;have Of:=blk_frozen Ka.out 3)|((with_reducible refine gate_callee (f:=23) rfl ?_);refine goesL_ (some 21) rfl rfl Try.func23 (by kernel_rfl) rfl #[.agg #[.int .i64 a0_0,.slice A0_1 l0_1.length c0_1,.slice A0_2 l0_2.length c0_2,.slice A0_3 l0_3.length c0_3]] rfl Z22 ?_;(with_reducible refine (impl_Line_jobs.calls kj1 a0_0 (fun k_=>k_ < w.heap.size) _ _ l0_1 (fun k_=>k_ < w.heap.size) _ _ l0_2 (fun k_=>k_ < w.heap.size) _ _ l0_3 Ma _ ?side1 ?side2 ?side3 A12.out).mono ?_);(case side1=>exact Kd.V_mk HC0_1.out (Kd.F_below (Kd.C_F k38_heap HR0_1.out) (pB_ HB.out)));(case side2=>exact Kd.V_mk HC0_2.out (Kd.F_below (Kd.C_F k38_heap HR0_2.out) (pB_ HB.out)));(case side3=>exact Kd.V_mk HC0_3.out (Kd.F_below (Kd.C_F k38_heap HR0_3.out) (pB_ HB.out)));rintro e w16 ⟨Ji,rfl,ho0,hb⟩;refine ⟨_,rfl,?_⟩;have n_:=an_ (Kd.R_lower (Kd.R_newB (Kd.R_mono (ok':=fun k_=>True) ho0 (fun _ hk_=>trivial)) (pk_ Ua.out)) (below_size (pB_ HB.out)))<|an_ (blk_below (pk_ Ka.out) hb)<|an_ (blk_below (pk_ Ua.out) hb)<|Aside0.mk (below_step (pB_ HB.out) hb);clear Ka Ua HB;obtain ⟨Xd,Ka,Ua,HB⟩:=n_;(try clear hb);(try clear hb2);(try clear hk);(try clear hi);(try clear ho0);obtain ⟨Uf,Xf,eo17⟩:=Kd.R_slice Xd.out;subst eo17))
    go_loopg [23] kj1 (fun kq v23 w'=>∃ (Ja:Int) (Jb:List (Int × Bool)),v23=.int .i64 Ja∧Aside0 (impl_LineOk.l0 kq Ma (Ma.length:Int) Ja a0_0 l0_1 l0_2 l0_3 Jb=some r)∧Aside0 (kq≤kj1)∧Aside0 (Kd.R k38 38 w' w.heap.size (fun k_=>k_≠Kb) (.slice Uf Ma.length Xf) Ma)∧Aside0 (w'.heap[Xa]?=some (.cells #[.int .i64 a0_0,(.slice A0_1 l0_1.length c0_1),(.slice A0_2 l0_2.length c0_2),(.slice A0_3 l0_3.length c0_3)] 32 (0,0)))∧Aside0 (w'.heap[Kb]?=some (mapB Value.bool Jb))∧Aside0 (Below w.heap.size w w'))
    case atStart => exact ⟨(0), (([] : List (Int × Bool))), Z28, H', ⟨Nat.le_refl _⟩, ⟨pR_ (Kd.R_mono Xd.out (fun _ hk => hk.2))⟩, ⟨pk_ Ka.out⟩, ⟨pk_ Ua.out⟩, ⟨pB_ HB.out⟩⟩
    case round =>
     clear H'
     try clear c1
     try clear c2
     try clear p2
     try clear c5
     try clear c11
     try clear c14
     try clear Me Oe Ue Xe Jf Kf Mf Of
     try clear p2
     obtain ⟨Ja, Jb, rfl, HA, HK2, Ub, Ka, Ua, HB⟩ := hrel
     cases gk with
     | zero => exact absurd HA.out (by simp [impl_LineOk.l0])
     | succ k2 =>
      have H := HA.out; clear HA; simp only [impl_LineOk.l0] at H
      by_cases c18 : Ja < (Ma.length : Int)
      ·rw [if_pos c18] at H
       have c18b0 : decide (Ja < (Ma.length : Int)) = true := decide_eq_true c18; clear c18
       by_cases c19 : 0 ≤ Ja
       ·rw [if_pos c19] at H
        have c19b0 : decide (0 ≤ Ja) = true := decide_eq_true c19; clear c19
        by_cases c20 : Ja < (Ma.length : Int)
        ·rw [if_pos c20] at H
         have c20b0:decide (Ja < (Ma.length:Int))=true:=decide_eq_true c20;clear c20;obtain ⟨Je,A210,H⟩:=Option.bind_eq_some_iff.mp H;(try dsimp only at H);have A21:=Aside0.mk A210;clear A210;have HU22:=Aside0.mk H;clear H;have p241:0≤(Ja:Int):=of_decide_eq_true Z27;have q241:Ja < (Ma.length:Int):=of_decide_eq_true Z27;obtain ⟨ad241,e241,hx241_0,hx241_1,hx241_2,hx241_3⟩:=at_T38 (Kd.R_reads' Ub.out).2.2 Ja p241 q241;cases e241;replace p241:=eq_true p241;replace q241:=eq_true q241
         go_upto_if 31 with (first|((with_reducible refine gate_dst (N:=5) rfl ?_);(try (refine gate_guard (by rfl) ?_;dsimp only));refine box_event ?hg (N:=5) ?hd (cs:=#[.int .i64 0,.int .i64 0,.int .i64 0,.int .i64 0]) (t:=38) ?hr ?_;(case hd=>rfl);(case hg=>rfl);(case hr=>first|(go_simp;done)|(go_simp;rfl));intro Mc hg w23 hbox hb;have n_:=an_ (Kd.R_below (Kd.R_elderB (pR_ Ub.out) Mc (Nat.le_of_eq hg.symm)) hb)<|an_ (blk_below (pk_ Ka.out) hb)<|an_ (blk_below (pk_ Ua.out) hb)<|an_ (below_step (pB_ HB.out) hb)<|an_ (hbox)<|an_ ((by rw [hg];exact (below_size (pB_ HB.out)):w.heap.size≤Mc))<|an_ ((by rw [hg];exact (below_size (pB_ HB.out)):w.heap.size≤Mc))<|an_ ((by rw [hg];exact Nat.ne_of_lt (blk_lt (pk_ Ka.out)):Xa≠Mc))<|an_ ((by rw [hg];exact Nat.ne_of_gt (blk_lt (pk_ Ka.out)):Mc≠Xa))<|an_ ((by rw [hg];exact Nat.ne_of_lt (blk_lt (pk_ Ua.out)):Kb≠Mc))<|Aside0.mk ((by rw [hg];exact Nat.ne_of_gt (blk_lt (pk_ Ua.out)):Mc≠Kb));clear Ub Ka Ua HB;obtain ⟨Ub,Ka,Ua,HB,Oa,Ki,Xc,Mb,Kc,Ob,Xb⟩:=n_;clear hb hbox hg;(try have hnb24:=Kc.out);(try have hnc24:=Mb.out);(try have hnb25:=Xb.out);(try have hnc25:=Ob.out);have Mi:w23.cell? ⟨Mc,0,none⟩=some (.int .i64 0):=(blk_cell Oa.out 0).trans rfl;have Oi:w23.cell? ⟨Mc,1,none⟩=some (.int .i64 0):=(blk_cell Oa.out 1).trans rfl;have Ui:w23.cell? ⟨Mc,2,none⟩=some (.int .i64 0):=(blk_cell Oa.out 2).trans rfl;have Xi:w23.cell? ⟨Mc,3,none⟩=some (.int .i64 0):=(blk_cell Oa.out 3).trans rfl;have Jj:=blk_frozen Oa.out 0;have Kj:=blk_frozen Oa.out 1;have Mj:=blk_frozen Oa.out 2;have Oj:=blk_frozen Oa.out 3)|((with_reducible refine gate_callee (f:=20) rfl ?_);refine goesL_ (some 30) rfl rfl Try.func20 (by kernel_rfl) rfl #[.agg #[.int .i64 ((rd_T38 Ma Ja).f1.f0),.int .i64 ((rd_T38 Ma Ja).f1.f1),.int .i64 ((rd_T38 Ma Ja).f1.f2)]] rfl Z22 ?_;(with_reducible refine (impl_CostOk.calls ((rd_T38 Ma Ja).f1.f0) ((rd_T38 Ma Ja).f1.f1) ((rd_T38 Ma Ja).f1.f2) Je _ A21.out).mono ?_);rintro e w27 ⟨rfl,hb⟩;refine ⟨_,rfl,?_⟩;have n_:=an_ (Kd.R_below (pR_ (Kd.R_mono (fr_ (fr_ (fr_ (fr_ (Kd.R_mono Ub.out (fun k_ hk=>(⟨hk,hk.2⟩:_∧k_≠Mc))) 0 (.int .i64 ((rd_T38 Ma Ja).f0))) 1 (.int .i64 ((rd_T38 Ma Ja).f1.f0))) 2 (.int .i64 ((rd_T38 Ma Ja).f1.f1))) 3 (.int .i64 ((rd_T38 Ma Ja).f1.f2))) (fun _ h_=>h_.1))) hb)<|an_ (blk_below (g:=Xa) (o:=.cells #[.int .i64 a0_0,.slice A0_1 l0_1.length c0_1,.slice A0_2 l0_2.length c0_2,.slice A0_3 l0_3.length c0_3] 32 (0,0)) (by (with_reducible repeat (first|refine blk_drewN ?_ _|refine blk_drew ?_|refine blk_alloc ?_ _));refine blk_far ?_ Mb.out _;(with_reducible repeat (first|refine blk_drewN ?_ _|refine blk_drew ?_|refine blk_alloc ?_ _));refine blk_far ?_ Mb.out _;(with_reducible repeat (first|refine blk_drewN ?_ _|refine blk_drew ?_|refine blk_alloc ?_ _));refine blk_far ?_ Mb.out _;(with_reducible repeat (first|refine blk_drewN ?_ _|refine blk_drew ?_|refine blk_alloc ?_ _));refine blk_far ?_ Mb.out _;(with_reducible repeat (first|refine blk_drewN ?_ _|refine blk_drew ?_|refine blk_alloc ?_ _));exact Ka.out) hb)<|an_ (blk_below (g:=Kb) (o:=mapB Value.bool Jb) (by (with_reducible repeat (first|refine blk_drewN ?_ _|refine blk_drew ?_|refine blk_alloc ?_ _));refine blk_farM ?_ Ob.out _;(with_reducible repeat (first|refine blk_drewN ?_ _|refine blk_drew ?_|refine blk_alloc ?_ _));refine blk_farM ?_ Ob.out _;(with_reducible repeat (first|refine blk_drewN ?_ _|refine blk_drew ?_|refine blk_alloc ?_ _));refine blk_farM ?_ Ob.out _;(with_reducible repeat (first|refine blk_drewN ?_ _|refine blk_drew ?_|refine blk_alloc ?_ _));refine blk_farM ?_ Ob.out _;(with_reducible repeat (first|refine blk_drewN ?_ _|refine blk_drew ?_|refine blk_alloc ?_ _));exact Ua.out) hb)<|an_ (blk_below (g:=Mc) (o:=.cells #[.int .i64 ((rd_T38 Ma Ja).f0),.int .i64 ((rd_T38 Ma Ja).f1.f0),.int .i64 ((rd_T38 Ma Ja).f1.f1),.int .i64 ((rd_T38 Ma Ja).f1.f2)] 38 (0,0)) (by (with_reducible repeat (first|refine blk_drewN ?_ _|refine blk_drew ?_|refine blk_alloc ?_ _));refine blk_put (cs:=#[.int .i64 ((rd_T38 Ma Ja).f0),.int .i64 ((rd_T38 Ma Ja).f1.f0),.int .i64 ((rd_T38 Ma Ja).f1.f1),.int .i64 0]) ?_ 3 _ rfl;(with_reducible repeat (first|refine blk_drewN ?_ _|refine blk_drew ?_|refine blk_alloc ?_ _));refine blk_put (cs:=#[.int .i64 ((rd_T38 Ma Ja).f0),.int .i64 ((rd_T38 Ma Ja).f1.f0),.int .i64 0,.int .i64 0]) ?_ 2 _ rfl;(with_reducible repeat (first|refine blk_drewN ?_ _|refine blk_drew ?_|refine blk_alloc ?_ _));refine blk_put (cs:=#[.int .i64 ((rd_T38 Ma Ja).f0),.int .i64 0,.int .i64 0,.int .i64 0]) ?_ 1 _ rfl;(with_reducible repeat (first|refine blk_drewN ?_ _|refine blk_drew ?_|refine blk_alloc ?_ _));refine blk_put (cs:=#[.int .i64 0,.int .i64 0,.int .i64 0,.int .i64 0]) ?_ 0 _ rfl;(with_reducible repeat (first|refine blk_drewN ?_ _|refine blk_drew ?_|refine blk_alloc ?_ _));exact Oa.out) hb)<|Aside0.mk (below_step (pB_ HB.out) hb);clear Ub Ka Ua Oa HB;obtain ⟨Ub,Ka,Ua,Oa,HB⟩:=n_;(try clear hb);(try clear hb2);(try clear hk);(try clear hi);(try have hnb28:=Uc.out);(try have hnc28:=Jd.out);have Uj:w27.cell? ⟨Xa,0,none⟩=some (.int .i64 a0_0):=(blk_cell Ka.out 0).trans rfl;have Xj:w27.cell? ⟨Xa,1,none⟩=some (.slice A0_1 l0_1.length c0_1):=(blk_cell Ka.out 1).trans rfl;have Jk:w27.cell? ⟨Xa,2,none⟩=some (.slice A0_2 l0_2.length c0_2):=(blk_cell Ka.out 2).trans rfl;have Kk:w27.cell? ⟨Xa,3,none⟩=some (.slice A0_3 l0_3.length c0_3):=(blk_cell Ka.out 3).trans rfl;have Mk:=blk_frozen Ka.out 0;have Ok:=blk_frozen Ka.out 1;have Uk:=blk_frozen Ka.out 2;have Xk:=blk_frozen Ka.out 3))
         have H := HU22.out; clear HU22
         by_cases c30 : Ja ≥ (wrap64 ((l0_1.length : Int) + (l0_2.length : Int)))
         ·rw [if_pos c30] at H
          have c30b0:decide ((wrap64 ((l0_1.length:Int) + (l0_2.length:Int)))≤Ja)=true:=decide_eq_true c30;clear c30;(first|rw [c30b0]|(simp only [i64_w,i32_w];rw [c30b0])|(have cz_:=c30b0;simp only [bne,gt_iff_lt,Int.natCast_pos] at cz_;first|rw [cz_]|(simp only [i64_w,i32_w];rw [cz_]))|skip)
          by_cases c31 : ((rd_T38 Ma Ja).f1.f0) = 0
          ·rw [if_pos c31] at H
           have c31b0 : (((rd_T38 Ma Ja).f1.f0) == 0) = true := beq_iff_eq.mpr c31; have c31b1 : (((rd_T38 Ma Ja).f1.f0) != 0) = false := bne_eq_false_iff_eq.mpr c31; clear c31
           by_cases c32 : ((rd_T38 Ma Ja).f1.f1) = 0
           ·rw [if_pos c32] at H
            have c32b0:(((rd_T38 Ma Ja).f1.f1) == 0)=true:=beq_iff_eq.mpr c32;have c32b1:(((rd_T38 Ma Ja).f1.f1) != 0)=false:=bne_eq_false_iff_eq.mpr c32;clear c32;obtain ⟨Jg,A330,H⟩:=Option.bind_eq_some_iff.mp H;(try dsimp only at H);have A33:=Aside0.mk A330;clear A330
            by_cases c34 : Jg = true
            ·subst c34
             rw [if_pos rfl] at H; obtain ⟨Kg, A350, H⟩ := Option.bind_eq_some_iff.mp H; (try dsimp only at H); have A35 := Aside0.mk A350; clear A350
             by_cases c36 : Kg = true
             ·subst c36
              rw [if_pos rfl] at H;have HU37:=Aside0.mk H;clear H;(try have hnb38:=Kc.out);(try have hnc38:=Mb.out);(try have hnb39:=Xb.out);(try have hnc39:=Ob.out);obtain ⟨Jm,Km,Mm,Om,Um,Xm,Jn,Kn⟩:=cells4 Oa.out
              go_upto_if 92 with (first|(go_at_call 30;(with_reducible refine (impl_isNeed.calls ((rd_T38 Ma Ja).f1.f2) true _ A33.out).mono ?_);rintro e w' ⟨rfl,⟨nd,rfl⟩⟩)|(go_at_call 21;(with_reducible refine (impl_within.calls ((rd_T38 Ma Ja).f0) 0 1000000000000 true _ A35.out).mono ?_);rintro e w' ⟨rfl,⟨nd,rfl⟩⟩)|((with_reducible refine gate_dst (N:=91) rfl ?_);(try (refine gate_guard (by rfl) ?_;dsimp only));refine mlook_event (enc:=Value.bool) (M:=Jb) (d:=false) (g:=Kb) (x:=((rd_T38 Ma Ja).f0)) (t:=57) (kt:=3) (et:=4) (m:=.tmp 88) (k:=.tmp 90) ?hg (N:=91) ?hd ?ho ?hm ?hk Try.underlying57 Try.underlying3 (by kernel_rfl) ?hb ?_;(case hd=>rfl);(case hg=>rfl);(case ho=>rfl);(case hm=>first|rfl|(go_simp;done));(case hk=>first|rfl|(go_simp;done));(case hb=>((with_reducible repeat (first|refine blk_drewN ?_ _|refine blk_drew ?_|refine blk_alloc ?_ _));exact Ua.out))))
              have H := HU37.out; clear HU37
              by_cases c41 : mlook false Jb ((rd_T38 Ma Ja).f0) = true
              ·rw [if_pos c41] at H
               have c41b0:mlook false Jb ((rd_T38 Ma Ja).f0)=true:=c41;clear c41;(first|rw [c41b0]|(simp only [i64_w,i32_w];rw [c41b0])|(have cz_:=c41b0;simp only [bne,gt_iff_lt,Int.natCast_pos] at cz_;first|rw [cz_]|(simp only [i64_w,i32_w];rw [cz_]))|skip);obtain rfl:=Option.some.inj H
               go_wp2
               go_ret;exact ⟨by first|rfl|(simp [errW_none,errW_some] <;> rfl)|(simp [*,errW_none,errW_some] <;> rfl),by repeat (first|(with_reducible first|exact HB.out|apply below_alloc|apply pw_below_drewN|apply below_drew1|refine below_set ?_ Oc.out|refine below_set ?_ Jc.out|refine below_set ?_ Xc.out)|exact HB.out)⟩
              ·rw [if_neg c41] at H
               have c41b0 : mlook false Jb ((rd_T38 Ma Ja).f0) = false := by simpa using c41
               clear c41;(first|rw [c41b0]|(simp only [i64_w,i32_w];rw [c41b0])|(have cz_:=c41b0;simp only [bne,gt_iff_lt,Int.natCast_pos] at cz_;first|rw [cz_]|(simp only [i64_w,i32_w];rw [cz_]))|skip);have H':=Aside0.mk H;clear H;(try have hnb42:=Kc.out);(try have hnc42:=Mb.out);(try have hnb43:=Xb.out);(try have hnc43:=Ob.out);obtain ⟨Mn,On,Un,Xn,Jo,Ko,Mo,Oo⟩:=cells4 Oa.out
               go_wp2_with (first|((with_reducible refine gate_map (t:=57) rfl ?_);refine mput_event (enc:=Value.bool) (M:=Jb) (g:=Kb) (x:=((rd_T38 Ma Ja).f0)) (y:=true) (t:=57) (kt:=3) (et:=4) (m:=.tmp 93) (k:=.tmp 95) (v:=.const (.bool true)) ?hg ?hd ?ho ?hm ?hk ?hv Try.underlying57 Try.underlying3 ?hb ?_;(case hd=>rfl);(case hg=>rfl);(case ho=>rfl);(case hm=>first|rfl|(go_simp;done));(case hk=>first|rfl|(go_simp;done));(case hv=>first|rfl|(go_simp;done));(case hb=>(with_reducible repeat (first|refine blk_drewN ?_ _|refine blk_drew ?_|refine blk_alloc ?_ _));exact Ua.out);intro w45 hbx hg;have n_:=an_ (Kd.R_grown (ok:=(fun k_=>(k_≠Kb∧k_≠Mc))) (pR_ Ub.out) hg (fun k_ hk e_=>hk.1 (Option.some.inj e_)))<|an_ (blk_grown (pk_ Ka.out) hg (fun e_=>Uc.out (Option.some.inj e_)))<|an_ (hbx)<|an_ (blk_grown (pk_ Oa.out) hg (fun e_=>Xb.out (Option.some.inj e_)))<|Aside0.mk (pw_below_grown (pB_ HB.out) (some Kb) (below_size (pB_ HB.out)) hg (fun k_ e_=>(Option.some.inj e_) ▸ Jc.out));clear Ub Ka Ua Oa HB;obtain ⟨Ub,Ka,Ua,Oa,HB⟩:=n_;clear hg hbx))
               go_roundg k2
               case measure => have := HJ1.out; have := HK2.out; omega
               case rel=>exact ⟨(wrap64 (Ja + 1)),(mput Jb ((rd_T38 Ma Ja).f0) true),Z28,H',⟨by have:=HJ1.out;have:=HK2.out;omega⟩,⟨pR_ (Kd.R_mono Ub.out (fun _ hk=>hk.1))⟩,⟨pk_ Ka.out⟩,⟨pk_ Ua.out⟩,⟨pB_ HB.out⟩⟩
             ·replace c36 := Bool.eq_false_iff.mpr c36
              subst c36;rw [if_neg (show ¬ (false=true) by decide)] at H;obtain rfl:=Option.some.inj H;(try have hnb46:=Kc.out);(try have hnc46:=Mb.out);(try have hnb47:=Xb.out);(try have hnc47:=Ob.out);obtain ⟨Uo,Xo,Jp,Kp,Mp,Op,Up,Xp⟩:=cells4 Oa.out
              go_wp2_with (first|(go_at_call 30;(with_reducible refine (impl_isNeed.calls ((rd_T38 Ma Ja).f1.f2) true _ A33.out).mono ?_);rintro e w' ⟨rfl,⟨nd,rfl⟩⟩)|(go_at_call 21;(with_reducible refine (impl_within.calls ((rd_T38 Ma Ja).f0) 0 1000000000000 false _ A35.out).mono ?_);rintro e w' ⟨rfl,⟨nd,rfl⟩⟩))
              go_ret;exact ⟨by first|rfl|(simp [errW_none,errW_some] <;> rfl)|(simp [*,errW_none,errW_some] <;> rfl),by repeat (first|(with_reducible first|exact HB.out|apply below_alloc|apply pw_below_drewN|apply below_drew1|refine below_set ?_ Oc.out|refine below_set ?_ Jc.out|refine below_set ?_ Xc.out)|exact HB.out)⟩
            ·replace c34 := Bool.eq_false_iff.mpr c34
             subst c34;rw [if_neg (show ¬ (false=true) by decide)] at H;obtain rfl:=Option.some.inj H;(try have hnb49:=Kc.out);(try have hnc49:=Mb.out);(try have hnb50:=Xb.out);(try have hnc50:=Ob.out);obtain ⟨Jq,Kq,Mq,Oq,Uq,Xq,Jr,Kr⟩:=cells4 Oa.out
             go_wp2_with (first | (go_at_call 30; (with_reducible refine (impl_isNeed.calls ((rd_T38 Ma Ja).f1.f2) false _ A33.out).mono ?_); rintro e w' ⟨rfl, ⟨nd, rfl⟩⟩))
             go_ret;exact ⟨by first|rfl|(simp [errW_none,errW_some] <;> rfl)|(simp [*,errW_none,errW_some] <;> rfl),by repeat (first|(with_reducible first|exact HB.out|apply below_alloc|apply pw_below_drewN|apply below_drew1|refine below_set ?_ Oc.out|refine below_set ?_ Jc.out|refine below_set ?_ Xc.out)|exact HB.out)⟩
           ·rw [if_neg c32] at H
            have c32b0:(((rd_T38 Ma Ja).f1.f1) == 0)=false:=beq_eq_false_iff_ne.mpr c32;have c32b1:(((rd_T38 Ma Ja).f1.f1) != 0)=true:=bne_iff_ne.mpr c32;obtain rfl:=Option.some.inj H;(try have hnb52:=Kc.out);(try have hnc52:=Mb.out);(try have hnb53:=Xb.out);(try have hnc53:=Ob.out);obtain ⟨Mr,Or,Ur,Xr,Js,Ks,Ms,Os⟩:=cells4 Oa.out
            go_wp2
            go_ret;exact ⟨by first|rfl|(simp [errW_none,errW_some] <;> rfl)|(simp [*,errW_none,errW_some] <;> rfl),by repeat (first|(with_reducible first|exact HB.out|apply below_alloc|apply pw_below_drewN|apply below_drew1|refine below_set ?_ Oc.out|refine below_set ?_ Jc.out|refine below_set ?_ Xc.out)|exact HB.out)⟩
          ·rw [if_neg c31] at H
           have c31b0:(((rd_T38 Ma Ja).f1.f0) == 0)=false:=beq_eq_false_iff_ne.mpr c31;have c31b1:(((rd_T38 Ma Ja).f1.f0) != 0)=true:=bne_iff_ne.mpr c31;obtain rfl:=Option.some.inj H;(try have hnb55:=Kc.out);(try have hnc55:=Mb.out);(try have hnb56:=Xb.out);(try have hnc56:=Ob.out);obtain ⟨Us,Xs,Ju,Ku,Mu,Ou,Uu,Xu⟩:=cells4 Oa.out
           go_wp2
           go_ret;exact ⟨by first|rfl|(simp [errW_none,errW_some] <;> rfl)|(simp [*,errW_none,errW_some] <;> rfl),by repeat (first|(with_reducible first|exact HB.out|apply below_alloc|apply pw_below_drewN|apply below_drew1|refine below_set ?_ Oc.out|refine below_set ?_ Jc.out|refine below_set ?_ Xc.out)|exact HB.out)⟩
         ·rw [if_neg c30] at H
          have c30b0:decide ((wrap64 ((l0_1.length:Int) + (l0_2.length:Int)))≤Ja)=false:=decide_eq_false c30;clear c30;(first|rw [c30b0]|(simp only [i64_w,i32_w];rw [c30b0])|(have cz_:=c30b0;simp only [bne,gt_iff_lt,Int.natCast_pos] at cz_;first|rw [cz_]|(simp only [i64_w,i32_w];rw [cz_]))|skip)
          by_cases c58 : Ja ≥ (l0_1.length : Int)
          ·rw [if_pos c58] at H
           have c58b0 : decide ((l0_1.length : Int) ≤ Ja) = true := decide_eq_true c58; clear c58
           by_cases c59 : ((rd_T38 Ma Ja).f1.f0) = 0
           ·rw [if_pos c59] at H
            have c59b0:(((rd_T38 Ma Ja).f1.f0) == 0)=true:=beq_iff_eq.mpr c59;have c59b1:(((rd_T38 Ma Ja).f1.f0) != 0)=false:=bne_eq_false_iff_eq.mpr c59;clear c59;obtain ⟨Mg,A600,H⟩:=Option.bind_eq_some_iff.mp H;(try dsimp only at H);have A60:=Aside0.mk A600;clear A600
            by_cases c61 : Mg = true
            ·subst c61
             rw [if_pos rfl] at H; obtain ⟨Og, A620, H⟩ := Option.bind_eq_some_iff.mp H; (try dsimp only at H); have A62 := Aside0.mk A620; clear A620
             by_cases c63 : Og = true
             ·subst c63
              rw [if_pos rfl] at H; obtain ⟨Ug, A640, H⟩ := Option.bind_eq_some_iff.mp H; (try dsimp only at H); have A64 := Aside0.mk A640; clear A640
              by_cases c65 : Ug = true
              ·subst c65
               rw [if_pos rfl] at H;have HU66:=Aside0.mk H;clear H;(try have hnb67:=Uc.out);(try have hnc67:=Jd.out);(try have hnb68:=Mb.out);(try have hnc68:=Kc.out);obtain ⟨Jv,Kv,Mv,Ov,Uv,Xv,Jx,Kx⟩:=cells4 Ka.out;(try have hnb70:=Xb.out);(try have hnc70:=Ob.out);obtain ⟨Mx,Ox,Ux,Xx,Jy,Ky,My,Oy⟩:=cells4 Oa.out
               go_upto_if 92 with (first|(go_at_call 30;(with_reducible refine (impl_isNeed.calls ((rd_T38 Ma Ja).f1.f1) true _ A60.out).mono ?_);rintro e w' ⟨rfl,⟨nd,rfl⟩⟩)|(go_at_call 30;(with_reducible refine (impl_isNeed.calls ((rd_T38 Ma Ja).f1.f2) true _ A62.out).mono ?_);rintro e w' ⟨rfl,⟨nd,rfl⟩⟩)|(go_at_call 21;(with_reducible refine (impl_within.calls ((rd_T38 Ma Ja).f0) 0 1000000000000 true _ A64.out).mono ?_);rintro e w' ⟨rfl,⟨nd,rfl⟩⟩)|((with_reducible refine gate_dst (N:=91) rfl ?_);(try (refine gate_guard (by rfl) ?_;dsimp only));refine mlook_event (enc:=Value.bool) (M:=Jb) (d:=false) (g:=Kb) (x:=((rd_T38 Ma Ja).f0)) (t:=57) (kt:=3) (et:=4) (m:=.tmp 88) (k:=.tmp 90) ?hg (N:=91) ?hd ?ho ?hm ?hk Try.underlying57 Try.underlying3 (by kernel_rfl) ?hb ?_;(case hd=>rfl);(case hg=>rfl);(case ho=>rfl);(case hm=>first|rfl|(go_simp;done));(case hk=>first|rfl|(go_simp;done));(case hb=>((with_reducible repeat (first|refine blk_drewN ?_ _|refine blk_drew ?_|refine blk_alloc ?_ _));exact Ua.out))))
               have H := HU66.out; clear HU66
               by_cases c72 : mlook false Jb ((rd_T38 Ma Ja).f0) = true
               ·rw [if_pos c72] at H
                have c72b0:mlook false Jb ((rd_T38 Ma Ja).f0)=true:=c72;clear c72;(first|rw [c72b0]|(simp only [i64_w,i32_w];rw [c72b0])|(have cz_:=c72b0;simp only [bne,gt_iff_lt,Int.natCast_pos] at cz_;first|rw [cz_]|(simp only [i64_w,i32_w];rw [cz_]))|skip);obtain rfl:=Option.some.inj H
                go_wp2
                go_ret;exact ⟨by first|rfl|(simp [errW_none,errW_some] <;> rfl)|(simp [*,errW_none,errW_some] <;> rfl),by repeat (first|(with_reducible first|exact HB.out|apply below_alloc|apply pw_below_drewN|apply below_drew1|refine below_set ?_ Oc.out|refine below_set ?_ Jc.out|refine below_set ?_ Xc.out)|exact HB.out)⟩
               ·rw [if_neg c72] at H
                have c72b0 : mlook false Jb ((rd_T38 Ma Ja).f0) = false := by simpa using c72
                clear c72;(first|rw [c72b0]|(simp only [i64_w,i32_w];rw [c72b0])|(have cz_:=c72b0;simp only [bne,gt_iff_lt,Int.natCast_pos] at cz_;first|rw [cz_]|(simp only [i64_w,i32_w];rw [cz_]))|skip);have H':=Aside0.mk H;clear H;(try have hnb73:=Kc.out);(try have hnc73:=Mb.out);(try have hnb74:=Xb.out);(try have hnc74:=Ob.out);obtain ⟨Uy,Xy,Jz,Kz,Mz,Oz,Uz,Xz⟩:=cells4 Oa.out
                go_wp2_with (first|((with_reducible refine gate_map (t:=57) rfl ?_);refine mput_event (enc:=Value.bool) (M:=Jb) (g:=Kb) (x:=((rd_T38 Ma Ja).f0)) (y:=true) (t:=57) (kt:=3) (et:=4) (m:=.tmp 93) (k:=.tmp 95) (v:=.const (.bool true)) ?hg ?hd ?ho ?hm ?hk ?hv Try.underlying57 Try.underlying3 ?hb ?_;(case hd=>rfl);(case hg=>rfl);(case ho=>rfl);(case hm=>first|rfl|(go_simp;done));(case hk=>first|rfl|(go_simp;done));(case hv=>first|rfl|(go_simp;done));(case hb=>(with_reducible repeat (first|refine blk_drewN ?_ _|refine blk_drew ?_|refine blk_alloc ?_ _));exact Ua.out);intro w76 hbx hg;have n_:=an_ (Kd.R_grown (ok:=(fun k_=>(k_≠Kb∧k_≠Mc))) (pR_ Ub.out) hg (fun k_ hk e_=>hk.1 (Option.some.inj e_)))<|an_ (blk_grown (pk_ Ka.out) hg (fun e_=>Uc.out (Option.some.inj e_)))<|an_ (hbx)<|an_ (blk_grown (pk_ Oa.out) hg (fun e_=>Xb.out (Option.some.inj e_)))<|Aside0.mk (pw_below_grown (pB_ HB.out) (some Kb) (below_size (pB_ HB.out)) hg (fun k_ e_=>(Option.some.inj e_) ▸ Jc.out));clear Ub Ka Ua Oa HB;obtain ⟨Ub,Ka,Ua,Oa,HB⟩:=n_;clear hg hbx))
                go_roundg k2
                case measure => have := HJ1.out; have := HK2.out; omega
                case rel=>exact ⟨(wrap64 (Ja + 1)),(mput Jb ((rd_T38 Ma Ja).f0) true),Z28,H',⟨by have:=HJ1.out;have:=HK2.out;omega⟩,⟨pR_ (Kd.R_mono Ub.out (fun _ hk=>hk.1))⟩,⟨pk_ Ka.out⟩,⟨pk_ Ua.out⟩,⟨pB_ HB.out⟩⟩
              ·replace c65 := Bool.eq_false_iff.mpr c65
               subst c65;rw [if_neg (show ¬ (false=true) by decide)] at H;obtain rfl:=Option.some.inj H;(try have hnb77:=Uc.out);(try have hnc77:=Jd.out);(try have hnb78:=Mb.out);(try have hnc78:=Kc.out);obtain ⟨Ja1,Ka1,Ma1,Oa1,Ua1,Xa1,Jb1,Kb1⟩:=cells4 Ka.out;(try have hnb80:=Xb.out);(try have hnc80:=Ob.out);obtain ⟨Mb1,Ob1,Ub1,Xb1,Jc1,Kc1,Mc1,Oc1⟩:=cells4 Oa.out
               go_wp2_with (first|(go_at_call 30;(with_reducible refine (impl_isNeed.calls ((rd_T38 Ma Ja).f1.f1) true _ A60.out).mono ?_);rintro e w' ⟨rfl,⟨nd,rfl⟩⟩)|(go_at_call 30;(with_reducible refine (impl_isNeed.calls ((rd_T38 Ma Ja).f1.f2) true _ A62.out).mono ?_);rintro e w' ⟨rfl,⟨nd,rfl⟩⟩)|(go_at_call 21;(with_reducible refine (impl_within.calls ((rd_T38 Ma Ja).f0) 0 1000000000000 false _ A64.out).mono ?_);rintro e w' ⟨rfl,⟨nd,rfl⟩⟩))
               go_ret;exact ⟨by first|rfl|(simp [errW_none,errW_some] <;> rfl)|(simp [*,errW_none,errW_some] <;> rfl),by repeat (first|(with_reducible first|exact HB.out|apply below_alloc|apply pw_below_drewN|apply below_drew1|refine below_set ?_ Oc.out|refine below_set ?_ Jc.out|refine below_set ?_ Xc.out)|exact HB.out)⟩
             ·replace c63 := Bool.eq_false_iff.mpr c63
              subst c63;rw [if_neg (show ¬ (false=true) by decide)] at H;obtain rfl:=Option.some.inj H;(try have hnb82:=Uc.out);(try have hnc82:=Jd.out);(try have hnb83:=Mb.out);(try have hnc83:=Kc.out);obtain ⟨Uc1,Xc1,Jd1,Kd1,Md1,Od1,Ud1,Xd1⟩:=cells4 Ka.out;(try have hnb85:=Xb.out);(try have hnc85:=Ob.out);obtain ⟨Je1,Ke1,Me1,Oe1,Ue1,Xe1,Jf1,Kf1⟩:=cells4 Oa.out
              go_wp2_with (first|(go_at_call 30;(with_reducible refine (impl_isNeed.calls ((rd_T38 Ma Ja).f1.f1) true _ A60.out).mono ?_);rintro e w' ⟨rfl,⟨nd,rfl⟩⟩)|(go_at_call 30;(with_reducible refine (impl_isNeed.calls ((rd_T38 Ma Ja).f1.f2) false _ A62.out).mono ?_);rintro e w' ⟨rfl,⟨nd,rfl⟩⟩))
              go_ret;exact ⟨by first|rfl|(simp [errW_none,errW_some] <;> rfl)|(simp [*,errW_none,errW_some] <;> rfl),by repeat (first|(with_reducible first|exact HB.out|apply below_alloc|apply pw_below_drewN|apply below_drew1|refine below_set ?_ Oc.out|refine below_set ?_ Jc.out|refine below_set ?_ Xc.out)|exact HB.out)⟩
            ·replace c61 := Bool.eq_false_iff.mpr c61
             subst c61;rw [if_neg (show ¬ (false=true) by decide)] at H;obtain rfl:=Option.some.inj H;(try have hnb87:=Uc.out);(try have hnc87:=Jd.out);(try have hnb88:=Mb.out);(try have hnc88:=Kc.out);obtain ⟨Mf1,Of1,Uf1,Xf1,Jg1,Kg1,Mg1,Og1⟩:=cells4 Ka.out;(try have hnb90:=Xb.out);(try have hnc90:=Ob.out);obtain ⟨Ug1,Xg1,Jh1,Kh1,Mh1,Oh1,Uh1,Xh1⟩:=cells4 Oa.out
             go_wp2_with (first | (go_at_call 30; (with_reducible refine (impl_isNeed.calls ((rd_T38 Ma Ja).f1.f1) false _ A60.out).mono ?_); rintro e w' ⟨rfl, ⟨nd, rfl⟩⟩))
             go_ret;exact ⟨by first|rfl|(simp [errW_none,errW_some] <;> rfl)|(simp [*,errW_none,errW_some] <;> rfl),by repeat (first|(with_reducible first|exact HB.out|apply below_alloc|apply pw_below_drewN|apply below_drew1|refine below_set ?_ Oc.out|refine below_set ?_ Jc.out|refine below_set ?_ Xc.out)|exact HB.out)⟩
           ·rw [if_neg c59] at H
            have c59b0:(((rd_T38 Ma Ja).f1.f0) == 0)=false:=beq_eq_false_iff_ne.mpr c59;have c59b1:(((rd_T38 Ma Ja).f1.f0) != 0)=true:=bne_iff_ne.mpr c59;obtain rfl:=Option.some.inj H;(try have hnb92:=Uc.out);(try have hnc92:=Jd.out);(try have hnb93:=Mb.out);(try have hnc93:=Kc.out);obtain ⟨Ji1,Ki1,Mi1,Oi1,Ui1,Xi1,Jj1,Kj1⟩:=cells4 Ka.out;(try have hnb95:=Xb.out);(try have hnc95:=Ob.out);obtain ⟨Mj1,Oj1,Uj1,Xj1,Jk1,Kk1,Mk1,Ok1⟩:=cells4 Oa.out
            go_wp2
            go_ret;exact ⟨by first|rfl|(simp [errW_none,errW_some] <;> rfl)|(simp [*,errW_none,errW_some] <;> rfl),by repeat (first|(with_reducible first|exact HB.out|apply below_alloc|apply pw_below_drewN|apply below_drew1|refine below_set ?_ Oc.out|refine below_set ?_ Jc.out|refine below_set ?_ Xc.out)|exact HB.out)⟩
          ·rw [if_neg c58] at H
           have c58b0 : decide ((l0_1.length : Int) ≤ Ja) = false := decide_eq_false c58; clear c58
           by_cases c97 : Je = true
           ·subst c97
            rw [if_pos rfl] at H; obtain ⟨Xg, A980, H⟩ := Option.bind_eq_some_iff.mp H; (try dsimp only at H); have A98 := Aside0.mk A980; clear A980
            by_cases c99 : Xg = true
            ·subst c99
             rw [if_pos rfl] at H;have HU100:=Aside0.mk H;clear H;(try have hnb101:=Uc.out);(try have hnc101:=Jd.out);(try have hnb102:=Mb.out);(try have hnc102:=Kc.out);obtain ⟨Uk1,Xk1,Jm1,Km1,Mm1,Om1,Um1,Xm1⟩:=cells4 Ka.out;(try have hnb104:=Xb.out);(try have hnc104:=Ob.out);obtain ⟨Jn1,Kn1,Mn1,On1,Un1,Xn1,Jo1,Ko1⟩:=cells4 Oa.out
             go_upto_if 92 with (first|(go_at_call 21;(with_reducible refine (impl_within.calls ((rd_T38 Ma Ja).f0) 0 1000000000000 true _ A98.out).mono ?_);rintro e w' ⟨rfl,⟨nd,rfl⟩⟩)|((with_reducible refine gate_dst (N:=91) rfl ?_);(try (refine gate_guard (by rfl) ?_;dsimp only));refine mlook_event (enc:=Value.bool) (M:=Jb) (d:=false) (g:=Kb) (x:=((rd_T38 Ma Ja).f0)) (t:=57) (kt:=3) (et:=4) (m:=.tmp 88) (k:=.tmp 90) ?hg (N:=91) ?hd ?ho ?hm ?hk Try.underlying57 Try.underlying3 (by kernel_rfl) ?hb ?_;(case hd=>rfl);(case hg=>rfl);(case ho=>rfl);(case hm=>first|rfl|(go_simp;done));(case hk=>first|rfl|(go_simp;done));(case hb=>((with_reducible repeat (first|refine blk_drewN ?_ _|refine blk_drew ?_|refine blk_alloc ?_ _));exact Ua.out))))
             have H := HU100.out; clear HU100
             by_cases c106 : mlook false Jb ((rd_T38 Ma Ja).f0) = true
             ·rw [if_pos c106] at H
              have c106b0:mlook false Jb ((rd_T38 Ma Ja).f0)=true:=c106;clear c106;(first|rw [c106b0]|(simp only [i64_w,i32_w];rw [c106b0])|(have cz_:=c106b0;simp only [bne,gt_iff_lt,Int.natCast_pos] at cz_;first|rw [cz_]|(simp only [i64_w,i32_w];rw [cz_]))|skip);obtain rfl:=Option.some.inj H
              go_wp2
              go_ret;exact ⟨by first|rfl|(simp [errW_none,errW_some] <;> rfl)|(simp [*,errW_none,errW_some] <;> rfl),by repeat (first|(with_reducible first|exact HB.out|apply below_alloc|apply pw_below_drewN|apply below_drew1|refine below_set ?_ Oc.out|refine below_set ?_ Jc.out|refine below_set ?_ Xc.out)|exact HB.out)⟩
             ·rw [if_neg c106] at H
              have c106b0 : mlook false Jb ((rd_T38 Ma Ja).f0) = false := by simpa using c106
              clear c106;(first|rw [c106b0]|(simp only [i64_w,i32_w];rw [c106b0])|(have cz_:=c106b0;simp only [bne,gt_iff_lt,Int.natCast_pos] at cz_;first|rw [cz_]|(simp only [i64_w,i32_w];rw [cz_]))|skip);have H':=Aside0.mk H;clear H;(try have hnb107:=Kc.out);(try have hnc107:=Mb.out);(try have hnb108:=Xb.out);(try have hnc108:=Ob.out);obtain ⟨Mo1,Oo1,Uo1,Xo1,Jp1,Kp1,Mp1,Op1⟩:=cells4 Oa.out
              go_wp2_with (first|((with_reducible refine gate_map (t:=57) rfl ?_);refine mput_event (enc:=Value.bool) (M:=Jb) (g:=Kb) (x:=((rd_T38 Ma Ja).f0)) (y:=true) (t:=57) (kt:=3) (et:=4) (m:=.tmp 93) (k:=.tmp 95) (v:=.const (.bool true)) ?hg ?hd ?ho ?hm ?hk ?hv Try.underlying57 Try.underlying3 ?hb ?_;(case hd=>rfl);(case hg=>rfl);(case ho=>rfl);(case hm=>first|rfl|(go_simp;done));(case hk=>first|rfl|(go_simp;done));(case hv=>first|rfl|(go_simp;done));(case hb=>(with_reducible repeat (first|refine blk_drewN ?_ _|refine blk_drew ?_|refine blk_alloc ?_ _));exact Ua.out);intro Up1 hbx hg;have n_:=an_ (Kd.R_grown (ok:=(fun k_=>(k_≠Kb∧k_≠Mc))) (pR_ Ub.out) hg (fun k_ hk e_=>hk.1 (Option.some.inj e_)))<|an_ (blk_grown (pk_ Ka.out) hg (fun e_=>Uc.out (Option.some.inj e_)))<|an_ (hbx)<|an_ (blk_grown (pk_ Oa.out) hg (fun e_=>Xb.out (Option.some.inj e_)))<|Aside0.mk (pw_below_grown (pB_ HB.out) (some Kb) (below_size (pB_ HB.out)) hg (fun k_ e_=>(Option.some.inj e_) ▸ Jc.out));clear Ub Ka Ua Oa HB;obtain ⟨Ub,Ka,Ua,Oa,HB⟩:=n_;clear hg hbx))
              go_roundg k2
              case measure => have := HJ1.out; have := HK2.out; omega
              case rel=>exact ⟨(wrap64 (Ja + 1)),(mput Jb ((rd_T38 Ma Ja).f0) true),Z28,H',⟨by have:=HJ1.out;have:=HK2.out;omega⟩,⟨pR_ (Kd.R_mono Ub.out (fun _ hk=>hk.1))⟩,⟨pk_ Ka.out⟩,⟨pk_ Ua.out⟩,⟨pB_ HB.out⟩⟩
            ·replace c99 := Bool.eq_false_iff.mpr c99
             subst c99;rw [if_neg (show ¬ (false=true) by decide)] at H;obtain rfl:=Option.some.inj H;(try have hnb111:=Uc.out);(try have hnc111:=Jd.out);(try have hnb112:=Mb.out);(try have hnc112:=Kc.out);obtain ⟨Xp1,Jq1,Kq1,Mq1,Oq1,Uq1,Xq1,Jr1⟩:=cells4 Ka.out;(try have hnb114:=Xb.out);(try have hnc114:=Ob.out);obtain ⟨Kr1,Mr1,Or1,Ur1,Xr1,Js1,Ks1,Ms1⟩:=cells4 Oa.out
             go_wp2_with (first | (go_at_call 21; (with_reducible refine (impl_within.calls ((rd_T38 Ma Ja).f0) 0 1000000000000 false _ A98.out).mono ?_); rintro e w' ⟨rfl, ⟨nd, rfl⟩⟩))
             go_ret;exact ⟨by first|rfl|(simp [errW_none,errW_some] <;> rfl)|(simp [*,errW_none,errW_some] <;> rfl),by repeat (first|(with_reducible first|exact HB.out|apply below_alloc|apply pw_below_drewN|apply below_drew1|refine below_set ?_ Oc.out|refine below_set ?_ Jc.out|refine below_set ?_ Xc.out)|exact HB.out)⟩
           ·replace c97 := Bool.eq_false_iff.mpr c97
            subst c97;rw [if_neg (show ¬ (false=true) by decide)] at H;obtain rfl:=Option.some.inj H;(try have hnb116:=Uc.out);(try have hnc116:=Jd.out);(try have hnb117:=Mb.out);(try have hnc117:=Kc.out);obtain ⟨Os1,Us1,Xs1,Ju1,Ku1,Mu1,Ou1,Uu1⟩:=cells4 Ka.out
            go_wp2
            go_ret;exact ⟨by first|rfl|(simp [errW_none,errW_some] <;> rfl)|(simp [*,errW_none,errW_some] <;> rfl),by repeat (first|(with_reducible first|exact HB.out|apply below_alloc|apply pw_below_drewN|apply below_drew1|refine below_set ?_ Oc.out|refine below_set ?_ Jc.out|refine below_set ?_ Xc.out)|exact HB.out)⟩
        ·rw [if_neg c20] at H
         exact absurd H (by simp)
       ·rw [if_neg c19] at H
        exact absurd H (by simp)
      ·rw [if_neg c18] at H
       have c18b0 : decide (Ja < (Ma.length : Int)) = false := decide_eq_false c18; clear c18; obtain rfl := Option.some.inj H
       go_wp2
       go_ret;exact ⟨by first|rfl|(simp [errW_none,errW_some] <;> rfl)|(simp [*,errW_none,errW_some] <;> rfl),by repeat (first|(with_reducible first|exact HB.out|apply below_alloc|apply pw_below_drewN|apply below_drew1|refine below_set ?_ Oc.out|refine below_set ?_ Jc.out)|exact HB.out)⟩

/-! ### slices_IndexFunc_impl_Job_impl_Job: function 32 -/
def slices_IndexFunc_impl_Job_impl_Job.l0 : Nat → List (S38) → (Int → Int → Int → Int → Option (Bool)) → Int → Int → Option (Int)
 | 0, _, _, _, _ => none
 | k + 1,x0,x1,x7,x8=>if x8 < x7 then (if 0≤x8 then (if x8 < (x0.length:Int) then ((x1 ((rd_T38 x0 x8).f0) ((rd_T38 x0 x8).f1.f0) ((rd_T38 x0 x8).f1.f1) ((rd_T38 x0 x8).f1.f2)).bind fun Jh=>(if Jh=true then (some x8) else (slices_IndexFunc_impl_Job_impl_Job.l0 k x0 x1 x7 (wrap64 (x8 + 1))))) else (none)) else (none)) else (some (-1))
def slices_IndexFunc_impl_Job_impl_Job.f (k : Nat) (l0 : List (S38)) (a1 : (Int → Int → Int → Int → Option (Bool))) : Option (Int) := slices_IndexFunc_impl_Job_impl_Job.l0 k l0 a1 (l0.length : Int) 0
set_option maxHeartbeats 8000000 in
set_option maxRecDepth 100000 in
theorem slices_IndexFunc_impl_Job_impl_Job.calls (k : Nat) (A0 : Option Addr) (c0 : Nat) (l0 : List (S38)) (a1 : (Int → Int → Int → Int → Option (Bool))) (fn1 : Nat) (cp1 : Array Value) (r : Int) (w : World) (hr0 : Kd.C k38 w A0 l0.length l0) (hc0 : l0.length ≤ c0) (hq1 : Aside0 (∃ F_, Try.prog.funcs[fn1]? = some F_ ∧ (F_.name == "runtime.NumGoroutine") = false ∧ F_.body.isSome = true)) (HP1_32 : Aside0 (∀ (a900_0 : Int) (a900_1 : Int) (a900_2 : Int) (a900_3 : Int) (rr0_ : Bool) (W_ : World), Below w.heap.size w W_ → a1 a900_0 a900_1 a900_2 a900_3 = some rr0_ → Calls Try.prog fn1 (#[.agg #[.int .i64 a900_0, .int .i64 a900_1, .int .i64 a900_2, .int .i64 a900_3]] ++ cp1) W_ (fun e w' => e = .returned (.bool rr0_) ∧ Below W_.heap.size W_ w'))) (h : slices_IndexFunc_impl_Job_impl_Job.f k l0 a1 = some r) :
  Calls Try.prog 32 #[.slice A0 l0.length c0, .func (.func fn1) #[] cp1] w fun e w' => e = .returned (.int .i64 r) ∧ Below w.heap.size w w' := by
 have hu38 := Try.underlying38
 have HR0 := Aside0.mk hr0
 have HC0 := Aside0.mk hc0
 clear hr0 hc0
 have HB := Aside0.mk (Below.refl w.heap.size w)
 have H : (slices_IndexFunc_impl_Job_impl_Job.l0 k l0 a1 (l0.length : Int) 0) = some r := h
 clear h
 have H' := Aside0.mk H
 clear H
 go_enter Try.func32, Try.ntmps32
 go_wp2
 go_loopg [8] k (fun kq v8 w'=>∃ (x8_1:Int),v8=.int .i64 x8_1∧Aside0 (slices_IndexFunc_impl_Job_impl_Job.l0 kq l0 a1 (l0.length:Int) x8_1=some r)∧Aside0 (kq≤k)∧Aside0 (Below w.heap.size w w'))
 case atStart => exact ⟨(0), Z28, H', ⟨Nat.le_refl _⟩, ⟨pB_ HB.out⟩⟩
 case round =>
  clear H'
  try clear p2
  obtain ⟨x8_1, rfl, HA, HK1, HB⟩ := hrel
  cases gk with
  | zero => exact absurd HA.out (by simp [slices_IndexFunc_impl_Job_impl_Job.l0])
  | succ k1 =>
   have H := HA.out; clear HA; simp only [slices_IndexFunc_impl_Job_impl_Job.l0] at H
   by_cases c3 : x8_1 < (l0.length : Int)
   ·rw [if_pos c3] at H
    have c3b0 : decide (x8_1 < (l0.length : Int)) = true := decide_eq_true c3; clear c3
    by_cases c4 : 0 ≤ x8_1
    ·rw [if_pos c4] at H
     have c4b0 : decide (0 ≤ x8_1) = true := decide_eq_true c4; clear c4
     by_cases c5 : x8_1 < (l0.length : Int)
     ·rw [if_pos c5] at H
      have c5b0:decide (x8_1 < (l0.length:Int))=true:=decide_eq_true c5;clear c5;obtain ⟨t251,A60,H⟩:=Option.bind_eq_some_iff.mp H;(try dsimp only at H);have A6:=Aside0.mk A60;clear A60;have HU7:=Aside0.mk H;clear H;have p250:0≤(x8_1:Int):=of_decide_eq_true Z27;have q250:x8_1 < (l0.length:Int):=of_decide_eq_true Z27;obtain ⟨ad250,e250,hx250_0,hx250_1,hx250_2,hx250_3⟩:=at_T38 HR0.out x8_1 p250 q250;cases e250;replace hx250_0:=(HB.out.cell (World.block_lt_of_cell? w _ hx250_0)).trans hx250_0;replace hx250_1:=(HB.out.cell (World.block_lt_of_cell? w _ hx250_1)).trans hx250_1;replace hx250_2:=(HB.out.cell (World.block_lt_of_cell? w _ hx250_2)).trans hx250_2;replace hx250_3:=(HB.out.cell (World.block_lt_of_cell? w _ hx250_3)).trans hx250_3;replace p250:=eq_true p250;replace q250:=eq_true q250
      go_upto_if 16 with (first|((with_reducible refine gate_calleeV (j:=11) rfl ?_);obtain ⟨_,hF1_,hF2_,hF3_⟩:=hq1.out;refine goesVL_ (some 16) rfl rfl hF1_ hF2_ hF3_ #[.agg #[.int .i64 ((rd_T38 l0 x8_1).f0),.int .i64 ((rd_T38 l0 x8_1).f1.f0),.int .i64 ((rd_T38 l0 x8_1).f1.f1),.int .i64 ((rd_T38 l0 x8_1).f1.f2)]] (cp:=cp1) rfl (by first|rfl|(go_simp;done)|simp) Z22 ?_;(with_reducible refine (HP1_32.out ((rd_T38 l0 x8_1).f0) ((rd_T38 l0 x8_1).f1.f0) ((rd_T38 l0 x8_1).f1.f1) ((rd_T38 l0 x8_1).f1.f2) t251 _ ?side1 A6.out).mono ?_);(case side1=>repeat (first|(with_reducible first|exact HB.out|apply below_alloc|apply pw_below_drewN|apply below_drew1)|exact HB.out));rintro e w8 ⟨rfl,hb⟩;refine ⟨_,rfl,?_⟩;have n0_:=Aside0.mk (below_step (pB_ HB.out) hb);clear HB;have HB:=n0_;clear n0_;(try clear hb);(try clear hb2);(try clear hk);(try clear hi)))
      have H := HU7.out; clear HU7
      by_cases c9 : t251 = true
      ·subst c9
       rw [if_pos rfl] at H; obtain rfl := Option.some.inj H
       go_wp2
       go_ret;exact ⟨by first|rfl|(simp [errW_none,errW_some] <;> rfl)|(simp [*,errW_none,errW_some] <;> rfl),by repeat (first|(with_reducible first|exact HB.out|apply below_alloc|apply pw_below_drewN|apply below_drew1)|exact HB.out)⟩
      ·replace c9 := Bool.eq_false_iff.mpr c9
       subst c9; rw [if_neg (show ¬ (false = true) by decide)] at H; have H' := Aside0.mk H; clear H
       go_wp2
       go_roundg k1
       case measure => have := HK1.out; omega
       case rel => exact ⟨(wrap64 (x8_1 + 1)), Z28, H', ⟨by have := HK1.out; omega⟩, ⟨pB_ HB.out⟩⟩
     ·rw [if_neg c5] at H
      exact absurd H (by simp)
    ·rw [if_neg c4] at H
     exact absurd H (by simp)
   ·rw [if_neg c3] at H
    have c3b0 : decide (x8_1 < (l0.length : Int)) = false := decide_eq_false c3; clear c3; obtain rfl := Option.some.inj H
    go_wp2
    go_ret;exact ⟨by first|rfl|(simp [errW_none,errW_some] <;> rfl)|(simp [*,errW_none,errW_some] <;> rfl),by repeat (first|(with_reducible first|exact HB.out|apply below_alloc|apply pw_below_drewN|apply below_drew1)|exact HB.out)⟩

end Go.Proofs.Ytcdangcjbijfkab.PFnExactLinePut
