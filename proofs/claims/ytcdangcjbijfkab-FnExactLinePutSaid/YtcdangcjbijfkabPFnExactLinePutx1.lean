-- by a program of this session's, over the kit's words
import Derived.Test.YtcdangcjbijfkabPZFnExactLinePut
import Derived.Test.YtcdangcjbijfkabPFnExactLinePutx0
namespace Go.Proofs.Ytcdangcjbijfkab.PFnExactLinePut
open Go.RowKit Go.Proofs.YtcdangcjbijfkabW.PrintWords Go.Proofs.YtcdangcjbijfkabW.PrintLast Go.Proofs.YtcdangcjbijfkabW.PrintMore Go.Proofs.YtcdangcjbijfkabV Go.Proofs.Ytcdangcjbijfkab.ZFnExactLinePut
attribute [local go_sem] max2_int min2_int max_two min_two max_three min_three max_four min_four   -- for this text's walks alone
set_option linter.unusedVariables false
set_option linter.unusedSimpArgs false

/-! ### laws_szJobS: function 12 -/
def laws_szJobS.f (l0 : List (S28)) (a1 : Int) : Option (Int) := if (wrap64 (a1 - (l0.length : Int))) < 0 then (some (-1)) else (some (wrap64 (a1 - (l0.length : Int))))
set_option maxHeartbeats 8000000 in
set_option maxRecDepth 100000 in
theorem laws_szJobS.calls (A0 : Option Addr) (c0 : Nat) (l0 : List (S28)) (a1 : Int) (r : Int) (w : World) (hr0 : Kd.C k28 w A0 l0.length l0) (hc0 : l0.length ≤ c0) (h : laws_szJobS.f l0 a1 = some r) :
  Calls Try.prog 12 #[.slice A0 l0.length c0, .int .i64 a1] w fun e w' => e = .returned (.int .i64 r) ∧ Drawn0 w w' := by
 have HR0 := Aside0.mk hr0
 have HC0 := Aside0.mk hc0
 clear hr0 hc0
 have H : (if (wrap64 (a1 - (l0.length : Int))) < 0 then (some (-1)) else (some (wrap64 (a1 - (l0.length : Int))))) = some r := h
 clear h
 by_cases c3 : (wrap64 (a1 - (l0.length : Int))) < 0
 ·rw [if_pos c3] at H
  have c3b0 : decide ((wrap64 (a1 - (l0.length : Int))) < 0) = true := decide_eq_true c3; clear c3; obtain rfl := Option.some.inj H; go_enter Try.func12, Try.ntmps12
  go_wp2
  go_ret; exact ⟨by first | rfl | (simp; done) | (simp [*]; done), by repeat (first | exact Drawn0.refl _ | apply Drawn0.step)⟩
 ·rw [if_neg c3] at H
  have c3b0 : decide ((wrap64 (a1 - (l0.length : Int))) < 0) = false := decide_eq_false c3; clear c3; obtain rfl := Option.some.inj H; go_enter Try.func12, Try.ntmps12
  go_wp2
  go_ret; exact ⟨by first | rfl | (simp; done) | (simp [*]; done), by repeat (first | exact Drawn0.refl _ | apply Drawn0.step)⟩

/-! ### laws_szLine: function 4 -/
def laws_szLine.f (a0_0 : Int) (l0_1 : List (S28)) (l0_2 : List (S28)) (l0_3 : List (S28)) (a1 : Int) : Option (Int) := (laws_szJobS.f l0_1 a1).bind fun t102 => (if t102 < 0 then (some (-1)) else ((laws_szJobS.f l0_2 t102).bind fun t103 => (if t103 < 0 then (some (-1)) else ((laws_szJobS.f l0_3 t103).bind fun t104 => (if t104 < 0 then (some (-1)) else (some t104))))))
set_option maxHeartbeats 8000000 in
set_option maxRecDepth 100000 in
theorem laws_szLine.calls (a0_0 : Int) (A0_1 : Option Addr) (c0_1 : Nat) (l0_1 : List (S28)) (A0_2 : Option Addr) (c0_2 : Nat) (l0_2 : List (S28)) (A0_3 : Option Addr) (c0_3 : Nat) (l0_3 : List (S28)) (a1 : Int) (r : Int) (w : World) (hr0_1 : Kd.C k28 w A0_1 l0_1.length l0_1) (hc0_1 : l0_1.length ≤ c0_1) (hr0_2 : Kd.C k28 w A0_2 l0_2.length l0_2) (hc0_2 : l0_2.length ≤ c0_2) (hr0_3 : Kd.C k28 w A0_3 l0_3.length l0_3) (hc0_3 : l0_3.length ≤ c0_3) (h : laws_szLine.f a0_0 l0_1 l0_2 l0_3 a1 = some r) :
  Calls Try.prog 4 #[.agg #[.int .i64 a0_0,.slice A0_1 l0_1.length c0_1,.slice A0_2 l0_2.length c0_2,.slice A0_3 l0_3.length c0_3],.int .i64 a1] w fun e w'=>e=.returned (.int .i64 r)∧Below w.heap.size w w':=by
 have hu24 := Try.underlying24
 have HR0_1 := Aside0.mk hr0_1
 have HC0_1 := Aside0.mk hc0_1
 clear hr0_1 hc0_1
 have HR0_2 := Aside0.mk hr0_2
 have HC0_2 := Aside0.mk hc0_2
 clear hr0_2 hc0_2
 have HR0_3 := Aside0.mk hr0_3
 have HC0_3 := Aside0.mk hc0_3
 clear hr0_3 hc0_3
 have HB := Aside0.mk (Below.refl w.heap.size w)
 have H:((laws_szJobS.f l0_1 a1).bind fun t102=>(if t102 < 0 then (some (-1)) else ((laws_szJobS.f l0_2 t102).bind fun t103=>(if t103 < 0 then (some (-1)) else ((laws_szJobS.f l0_3 t103).bind fun t104=>(if t104 < 0 then (some (-1)) else (some t104)))))))=some r:=h
 clear h
 obtain ⟨t102, A30, H⟩ := Option.bind_eq_some_iff.mp H
 (try dsimp only at H)
 have A3 := Aside0.mk A30
 clear A30
 have HU4 := Aside0.mk H
 clear H
 go_enter Try.func4, Try.ntmps4
 go_upto_if 10 with (first|((with_reducible refine gate_dst (N:=2) rfl ?_);refine box_event ?hg (N:=2) ?hd (cs:=#[.int .i64 a0_0,.slice A0_1 l0_1.length c0_1,.slice A0_2 l0_2.length c0_2,.slice A0_3 l0_3.length c0_3]) (t:=24) ?hr ?_;(case hd=>rfl);(case hg=>rfl);(case hr=>first|(go_simp;done)|(go_simp;rfl));intro gb101 hg w5 hbox hb;have n_:=an_ (below_step (pB_ HB.out) hb)<|an_ (hbox)<|an_ ((by rw [hg];exact (below_size (pB_ HB.out)):w.heap.size≤gb101))<|Aside0.mk ((by rw [hg];exact (below_size (pB_ HB.out)):w.heap.size≤gb101));clear HB;obtain ⟨HB,BK101,GW101,GE101⟩:=n_;clear hb hbox hg;have hcz6_0:w5.cell? ⟨gb101,0,none⟩=some (.int .i64 a0_0):=(blk_cell BK101.out 0).trans rfl;have hcz6_1:w5.cell? ⟨gb101,1,none⟩=some (.slice A0_1 l0_1.length c0_1):=(blk_cell BK101.out 1).trans rfl;have hcz6_2:w5.cell? ⟨gb101,2,none⟩=some (.slice A0_2 l0_2.length c0_2):=(blk_cell BK101.out 2).trans rfl;have hcz6_3:w5.cell? ⟨gb101,3,none⟩=some (.slice A0_3 l0_3.length c0_3):=(blk_cell BK101.out 3).trans rfl;have hfz6_0:=blk_frozen BK101.out 0;have hfz6_1:=blk_frozen BK101.out 1;have hfz6_2:=blk_frozen BK101.out 2;have hfz6_3:=blk_frozen BK101.out 3)|((with_reducible refine gate_callee (f:=12) rfl ?_);refine goesL_ (some 8) rfl rfl Try.func12 (by kernel_rfl) rfl #[.slice A0_1 l0_1.length c0_1,.int .i64 a1] rfl Z22 ?_;(with_reducible refine (laws_szJobS.calls _ _ l0_1 a1 t102 _ ?side1 ?side2 A3.out).mono ?_);(case side1=>exact pC_ (Kd.C_below HR0_1.out HB.out));(case side2=>exact HC0_1.out);rintro e w' ⟨rfl,⟨nd,rfl⟩⟩;refine ⟨_,rfl,?_⟩))
 have H := HU4.out
 clear HU4
 by_cases c7 : t102 < 0
 ·rw [if_pos c7] at H
  have c7b0:decide (t102 < 0)=true:=decide_eq_true c7;clear c7;(first|rw [c7b0]|(simp only [i64_w,i32_w];rw [c7b0])|(have cz_:=c7b0;simp only [bne,gt_iff_lt,Int.natCast_pos] at cz_;first|rw [cz_]|(simp only [i64_w,i32_w];rw [cz_]))|skip);obtain rfl:=Option.some.inj H
  go_wp2
  go_ret;exact ⟨by first|rfl|(simp [errW_none,errW_some] <;> rfl)|(simp [*,errW_none,errW_some] <;> rfl),by repeat (first|(with_reducible first|exact HB.out|apply below_alloc|apply pw_below_drewN|apply below_drew1|refine below_set ?_ GE101.out)|exact HB.out)⟩
 ·rw [if_neg c7] at H
  have c7b0:decide (t102 < 0)=false:=decide_eq_false c7;clear c7;(first|rw [c7b0]|(simp only [i64_w,i32_w];rw [c7b0])|(have cz_:=c7b0;simp only [bne,gt_iff_lt,Int.natCast_pos] at cz_;first|rw [cz_]|(simp only [i64_w,i32_w];rw [cz_]))|skip);obtain ⟨t103,A80,H⟩:=Option.bind_eq_some_iff.mp H;(try dsimp only at H);have A8:=Aside0.mk A80;clear A80;have HU9:=Aside0.mk H;clear H;obtain ⟨hcz10_0,hcz10_1,hcz10_2,hcz10_3,hfz10_0,hfz10_1,hfz10_2,hfz10_3⟩:=cells4 BK101.out
  go_upto_if 16 with (first|((with_reducible refine gate_callee (f:=12) rfl ?_);refine goesL_ (some 14) rfl rfl Try.func12 (by kernel_rfl) rfl #[.slice A0_2 l0_2.length c0_2,.int .i64 t102] rfl Z22 ?_;(with_reducible refine (laws_szJobS.calls _ _ l0_2 t102 t103 _ ?side1 ?side2 A8.out).mono ?_);(case side1=>exact pC_ (Kd.C_below HR0_2.out HB.out));(case side2=>exact HC0_2.out);rintro e w' ⟨rfl,⟨nd,rfl⟩⟩;refine ⟨_,rfl,?_⟩))
  have H := HU9.out; clear HU9
  by_cases c11 : t103 < 0
  ·rw [if_pos c11] at H
   have c11b0:decide (t103 < 0)=true:=decide_eq_true c11;clear c11;(first|rw [c11b0]|(simp only [i64_w,i32_w];rw [c11b0])|(have cz_:=c11b0;simp only [bne,gt_iff_lt,Int.natCast_pos] at cz_;first|rw [cz_]|(simp only [i64_w,i32_w];rw [cz_]))|skip);obtain rfl:=Option.some.inj H
   go_wp2
   go_ret;exact ⟨by first|rfl|(simp [errW_none,errW_some] <;> rfl)|(simp [*,errW_none,errW_some] <;> rfl),by repeat (first|(with_reducible first|exact HB.out|apply below_alloc|apply pw_below_drewN|apply below_drew1|refine below_set ?_ GE101.out)|exact HB.out)⟩
  ·rw [if_neg c11] at H
   have c11b0:decide (t103 < 0)=false:=decide_eq_false c11;clear c11;(first|rw [c11b0]|(simp only [i64_w,i32_w];rw [c11b0])|(have cz_:=c11b0;simp only [bne,gt_iff_lt,Int.natCast_pos] at cz_;first|rw [cz_]|(simp only [i64_w,i32_w];rw [cz_]))|skip);obtain ⟨t104,A120,H⟩:=Option.bind_eq_some_iff.mp H;(try dsimp only at H);have A12:=Aside0.mk A120;clear A120;have HU13:=Aside0.mk H;clear H;obtain ⟨hcz14_0,hcz14_1,hcz14_2,hcz14_3,hfz14_0,hfz14_1,hfz14_2,hfz14_3⟩:=cells4 BK101.out
   go_upto_if 22 with (first|((with_reducible refine gate_callee (f:=12) rfl ?_);refine goesL_ (some 20) rfl rfl Try.func12 (by kernel_rfl) rfl #[.slice A0_3 l0_3.length c0_3,.int .i64 t103] rfl Z22 ?_;(with_reducible refine (laws_szJobS.calls _ _ l0_3 t103 t104 _ ?side1 ?side2 A12.out).mono ?_);(case side1=>exact pC_ (Kd.C_below HR0_3.out HB.out));(case side2=>exact HC0_3.out);rintro e w' ⟨rfl,⟨nd,rfl⟩⟩;refine ⟨_,rfl,?_⟩))
   have H := HU13.out; clear HU13
   by_cases c15 : t104 < 0
   ·rw [if_pos c15] at H
    have c15b0:decide (t104 < 0)=true:=decide_eq_true c15;clear c15;(first|rw [c15b0]|(simp only [i64_w,i32_w];rw [c15b0])|(have cz_:=c15b0;simp only [bne,gt_iff_lt,Int.natCast_pos] at cz_;first|rw [cz_]|(simp only [i64_w,i32_w];rw [cz_]))|skip);obtain rfl:=Option.some.inj H
    go_wp2
    go_ret;exact ⟨by first|rfl|(simp [errW_none,errW_some] <;> rfl)|(simp [*,errW_none,errW_some] <;> rfl),by repeat (first|(with_reducible first|exact HB.out|apply below_alloc|apply pw_below_drewN|apply below_drew1|refine below_set ?_ GE101.out)|exact HB.out)⟩
   ·rw [if_neg c15] at H
    have c15b0:decide (t104 < 0)=false:=decide_eq_false c15;clear c15;(first|rw [c15b0]|(simp only [i64_w,i32_w];rw [c15b0])|(have cz_:=c15b0;simp only [bne,gt_iff_lt,Int.natCast_pos] at cz_;first|rw [cz_]|(simp only [i64_w,i32_w];rw [cz_]))|skip);obtain rfl:=Option.some.inj H
    go_wp2
    go_ret;exact ⟨by first|rfl|(simp [errW_none,errW_some] <;> rfl)|(simp [*,errW_none,errW_some] <;> rfl),by repeat (first|(with_reducible first|exact HB.out|apply below_alloc|apply pw_below_drewN|apply below_drew1|refine below_set ?_ GE101.out)|exact HB.out)⟩

/-! ### spec_l21All: function 15 -/
def spec_l21All.f (a0_0 : Int) (l0_1 : List (S38)) (l0_2 : List (S38)) (l0_3 : List (S38)) : Option ((List (S38))) := (some (([] : List (S38)) : List (S38))).bind fun y106 => (if y106.length + l0_3.length < 4398046511104 then ((some (y106 ++ l0_3 : List (S38))).bind fun y109 => (if y109.length + l0_2.length < 4398046511104 then ((some (y109 ++ l0_2 : List (S38))).bind fun y112 => (if y112.length + l0_1.length < 4398046511104 then (some (y112 ++ l0_1)) else (none))) else (none))) else (none))
def spec_l21All.T1 : Bool × List (List Nat × List Nat) := (true, [([], []), ([], []), ([1], [1]), ([0, 2], [0, 2]), ([], []), ([4], [4]), ([3, 5, 3], [3, 5]), ([], []), ([7], [7]), ([6, 8, 6], [6, 8]), ([9, 9, 0, 1, 2, 3, 4, 5, 6, 7, 8, 9], [9])])
def spec_l21All.B1 : List Nat := [0, 0, 2, 7, 0, 16, 63, 0, 128, 511, 1023]
theorem spec_l21All.tab1 : rtab .any (opsOf Try.f15 1) = spec_l21All.T1 := by kernel_rfl
theorem spec_l21All.bits1 : waitsOk spec_l21All.T1.2 spec_l21All.B1 = true := by kernel_rfl
set_option maxHeartbeats 8000000 in
set_option maxRecDepth 100000 in
theorem spec_l21All.calls (a0_0 : Int) (A0_1 : Option Addr) (c0_1 : Nat) (l0_1 : List (S38)) (A0_2 : Option Addr) (c0_2 : Nat) (l0_2 : List (S38)) (A0_3 : Option Addr) (c0_3 : Nat) (l0_3 : List (S38)) (r : List (S38)) (w : World) (hr0_1 : Kd.C k38 w A0_1 l0_1.length l0_1) (hc0_1 : l0_1.length ≤ c0_1) (hr0_2 : Kd.C k38 w A0_2 l0_2.length l0_2) (hc0_2 : l0_2.length ≤ c0_2) (hr0_3 : Kd.C k38 w A0_3 l0_3.length l0_3) (hc0_3 : l0_3.length ≤ c0_3) (h : spec_l21All.f a0_0 l0_1 l0_2 l0_3 = some r) :
  Calls Try.prog 15 #[.agg #[.int .i64 a0_0,.slice A0_1 l0_1.length c0_1,.slice A0_2 l0_2.length c0_2,.slice A0_3 l0_3.length c0_3]] w fun e w'=>∃ v0_:Value,e=.returned (v0_)∧Kd.R k38 38 w' w.heap.size (fun _=>True) v0_ r∧Below w.heap.size w w':=by
 have hu32 := Try.underlying32
 have HR0_1 := Aside0.mk hr0_1
 have HC0_1 := Aside0.mk hc0_1
 clear hr0_1 hc0_1
 have HR0_2 := Aside0.mk hr0_2
 have HC0_2 := Aside0.mk hc0_2
 clear hr0_2 hc0_2
 have HR0_3 := Aside0.mk hr0_3
 have HC0_3 := Aside0.mk hc0_3
 clear hr0_3 hc0_3
 have HB := Aside0.mk (Below.refl w.heap.size w)
 have H:((some (([]:List (S38)):List (S38))).bind fun y106=>(if y106.length + l0_3.length < 4398046511104 then ((some (y106 ++ l0_3:List (S38))).bind fun y109=>(if y109.length + l0_2.length < 4398046511104 then ((some (y109 ++ l0_2:List (S38))).bind fun y112=>(if y112.length + l0_1.length < 4398046511104 then (some (y112 ++ l0_1)) else (none))) else (none))) else (none)))=some r:=h
 clear h
 obtain ⟨y106, hy106⟩ : ∃ y_ : List (S38), y_ = (([] : List (S38))) := ⟨_, rfl⟩
 replace H:(if y106.length + l0_3.length < 4398046511104 then ((some (y106 ++ l0_3:List (S38))).bind fun y109=>(if y109.length + l0_2.length < 4398046511104 then ((some (y109 ++ l0_2:List (S38))).bind fun y112=>(if y112.length + l0_1.length < 4398046511104 then (some (y112 ++ l0_1)) else (none))) else (none))) else (none))=some r:=by first|(rw [hy106];with_reducible exact H)|(have H2_:=(Option.bind_some _ _).symm.trans H;rw [hy106];with_reducible exact H2_)|(have H2_:=(Option.bind_some _ _).symm.trans H;with_reducible exact H2_)|with_reducible exact H|(rw [hy106];exact H)|exact H
 have Ny106 := Aside0.mk hy106
 clear hy106
 by_cases c2 : y106.length + l0_3.length < 4398046511104
 ·rw [if_pos c2] at H
  have LMc2 := Aside0.mk c2; clear c2; obtain ⟨y109, hy109⟩ : ∃ y_ : List (S38), y_ = (y106 ++ l0_3) := ⟨_, rfl⟩
  replace H:(if y109.length + l0_2.length < 4398046511104 then ((some (y109 ++ l0_2:List (S38))).bind fun y112=>(if y112.length + l0_1.length < 4398046511104 then (some (y112 ++ l0_1)) else (none))) else (none))=some r:=by first|(rw [hy109];with_reducible exact H)|(have H2_:=(Option.bind_some _ _).symm.trans H;rw [hy109];with_reducible exact H2_)|(have H2_:=(Option.bind_some _ _).symm.trans H;with_reducible exact H2_)|with_reducible exact H|(rw [hy109];exact H)|exact H
  have Ny109 := Aside0.mk hy109; clear hy109
  by_cases c3 : y109.length + l0_2.length < 4398046511104
  ·rw [if_pos c3] at H
   have LMc3 := Aside0.mk c3; clear c3; obtain ⟨y112, hy112⟩ : ∃ y_ : List (S38), y_ = (y109 ++ l0_2) := ⟨_, rfl⟩
   replace H:(if y112.length + l0_1.length < 4398046511104 then (some (y112 ++ l0_1)) else (none))=some r:=by first|(rw [hy112];with_reducible exact H)|(have H2_:=(Option.bind_some _ _).symm.trans H;rw [hy112];with_reducible exact H2_)|(have H2_:=(Option.bind_some _ _).symm.trans H;with_reducible exact H2_)|with_reducible exact H|(rw [hy112];exact H)|exact H
   have Ny112 := Aside0.mk hy112; clear hy112
   by_cases c4 : y112.length + l0_1.length < 4398046511104
   ·rw [if_pos c4] at H
    have LMc4 := Aside0.mk c4; clear c4; obtain ⟨y115, hy115⟩ : ∃ y_ : List (S38), y_ = (y112 ++ l0_1) := ⟨_, rfl⟩
    replace H:(some y115)=some r:=by first|(rw [hy115];with_reducible exact H)|(have H2_:=(Option.bind_some _ _).symm.trans H;rw [hy115];with_reducible exact H2_)|(have H2_:=(Option.bind_some _ _).symm.trans H;with_reducible exact H2_)|with_reducible exact H|(rw [hy115];exact H)|exact H
    have Ny115 := Aside0.mk hy115; clear hy115; obtain rfl := Option.some.inj H; go_enter Try.func15, Try.ntmps15
    try go_wp2_with (first|((with_reducible refine gate_dst (N:=1) rfl ?_);refine box_event ?hg (N:=1) ?hd (cs:=#[.int .i64 a0_0,.slice A0_1 l0_1.length c0_1,.slice A0_2 l0_2.length c0_2,.slice A0_3 l0_3.length c0_3]) (t:=32) ?hr ?_;(case hd=>rfl);(case hg=>rfl);(case hr=>first|(go_simp;done)|(go_simp;rfl));intro gb105 hg w5 hbox hb;have n_:=an_ (below_step (pB_ HB.out) hb)<|an_ (hbox)<|an_ ((by rw [hg];exact (below_size (pB_ HB.out)):w.heap.size≤gb105))<|Aside0.mk ((by rw [hg];exact (below_size (pB_ HB.out)):w.heap.size≤gb105));clear HB;obtain ⟨HB,BK105,GW105,GE105⟩:=n_;clear hb hbox hg))
    have n_ := an_ (blk_drew BK105.out) <| Aside0.mk (below_drew1 HB.out)
    clear BK105 HB;obtain ⟨BK105,HB⟩:=n_;refine start_ (n:=11) (S:=fun w'=>w'.cell? ⟨gb105,0,none⟩=some (.int .i64 a0_0)∧w'.cell? ⟨gb105,1,none⟩=some (.slice A0_1 l0_1.length c0_1)∧w'.cell? ⟨gb105,2,none⟩=some (.slice A0_2 l0_2.length c0_2)∧w'.cell? ⟨gb105,3,none⟩=some (.slice A0_3 l0_3.length c0_3)) (ds:=[]) (bz 11 0) (by kernel_rfl) rfl (by kernel_rfl) ⟨(blk_cell BK105.out 0).trans rfl,(blk_cell BK105.out 1).trans rfl,(blk_cell BK105.out 2).trans rfl,(blk_cell BK105.out 3).trans rfl⟩ (fun hHeld=>?_);refine with_tabW spec_l21All.tab1 spec_l21All.bits1 (fun HT_ HW_=>?_);generalize w5.drew=w6 at BK105 HB hHeld ⊢;refine px_ (i:=1) (N:=some 4) (bz 11 2) (any_of HT_.out (by kernel_rfl)) ?_;refine px_ (i:=4) (N:=some 7) (bz 11 18) (any_of HT_.out (by kernel_rfl)) ?_;refine px_ (i:=7) (N:=some 10) (bz 11 146) (any_of HT_.out (by kernel_rfl)) ?_;refine tx_ (i:=2) (N:=some 5) (bz 11 150) rfl rfl (take_ofW HT_.out HW_.out (by kernel_rfl)) hHeld Z26 ?_;refine tx_ (i:=5) (N:=some 8) (bz 11 182) rfl rfl (take_ofW HT_.out HW_.out (by kernel_rfl)) hHeld Z26 ?_;refine tx_ (i:=8) (N:=some 11) (bz 11 438) rfl rfl (take_ofW HT_.out HW_.out (by kernel_rfl)) hHeld Z26 ?_;refine one_ (i:=0) (N:=some 3) (bz 11 439) rfl rfl (one_of HT_.out (by kernel_rfl)) (by decide) (fun K hK=>?_);refine Kd.R_lit_step k38 _ 38 ?hg (N:=3) ?hd (xs:=([]:List (S38))) (inner:=[]) (ok:=fun _=>True) (okp:=fun _=>True) ?hr ?hp (fun _ hk=>hk) trivial (Below.refl _ _) (Nat.le_refl _) (by simp) ?_;(case hd=>rfl);(case hg=>rfl);(case hr=>first|(go_simp;done)|(go_simp;rfl));(case hp=>exact (Reps.none _ _));intro v107 w7 ho8 hb hg_ hnew_;clear hg_ hnew_;(first|rw [← Ny106.out] at ho8|(simp only [Int.reduceToNat] at ho8;rw [← Ny106.out] at ho8))
    have n_ := an_ (Kd.R_lower ho8 (below_size (pB_ HB.out))) <| an_ (blk_below (pk_ BK105.out) hb) <| Aside0.mk (below_step (pB_ HB.out) hb)
    clear BK105 HB;obtain ⟨HO108,BK105,HB⟩:=n_;clear hb ho8;refine hK.out _ _ ⟨(blk_cell BK105.out 0).trans rfl,(blk_cell BK105.out 1).trans rfl,(blk_cell BK105.out 2).trans rfl,(blk_cell BK105.out 3).trans rfl⟩ (fun hHeld=>?_);clear hK K;refine nx_ (N:=some 3) ?_;refine one_ (i:=3) (N:=some 6) (bz 11 447) rfl rfl (one_of HT_.out (by kernel_rfl)) (by decide) (fun K hK=>?_);refine Kd.R_append_rows_step k38 (w0:=w) w.heap.size (by rfl) (.tmp 3) (.tmp 5) 30 38 (.agg #[(.int .i64 0),(.int .i64 0),(.int .i64 0),(.int .i64 0)]) 32 rfl Try.underlying30 info38 rfl (by decide) (by omega) v107 y106 l0_3 _ _ _ (fun _=>True) (fun _=>False) rfl rfl ?aO ?aR (fun _ _ h=>h) (fun _ h=>h.elim) ?aF ?aB ?aS ?aL ?_;(case aR=>exact pC_ (Kd.C_below HR0_3.out HB.out));(case aB=>exact (pB_ HB.out));(case aF=>exact (fun _ _=>trivial));(case aO=>exact (pR_ HO108.out));(case aS=>exact (below_size (pB_ HB.out)));(case aL=>have:=LMc2.out;omega);intro v110 w9 ho hb hg hat;rw [← Ny109.out] at ho
    have n_ := an_ (blk_grown (pk_ BK105.out) hg (Kd.R_ne HO108.out BK105.out (by decide))) <| an_ (hb) <| Aside0.mk (ho)
    clear BK105 HB HO108;obtain ⟨BK105,HB,HO111⟩:=n_;clear ho hb hg hat;refine hK.out _ _ ⟨(blk_cell BK105.out 0).trans rfl,(blk_cell BK105.out 1).trans rfl,(blk_cell BK105.out 2).trans rfl,(blk_cell BK105.out 3).trans rfl⟩ (fun hHeld=>?_);clear hK K;refine nx_ (N:=some 6) ?_;refine one_ (i:=6) (N:=some 9) (bz 11 511) rfl rfl (one_of HT_.out (by kernel_rfl)) (by decide) (fun K hK=>?_);refine Kd.R_append_rows_step k38 (w0:=w) w.heap.size (by rfl) (.tmp 6) (.tmp 8) 30 38 (.agg #[(.int .i64 0),(.int .i64 0),(.int .i64 0),(.int .i64 0)]) 32 rfl Try.underlying30 info38 rfl (by decide) (by omega) v110 y109 l0_2 _ _ _ (fun _=>True) (fun _=>False) rfl rfl ?aO ?aR (fun _ _ h=>h) (fun _ h=>h.elim) ?aF ?aB ?aS ?aL ?_;(case aR=>exact pC_ (Kd.C_below HR0_2.out HB.out));(case aB=>exact (pB_ HB.out));(case aF=>exact (fun _ _=>trivial));(case aO=>exact (pR_ HO111.out));(case aS=>exact (below_size (pB_ HB.out)));(case aL=>have:=LMc3.out;omega);intro v113 w10 ho hb hg hat;rw [← Ny112.out] at ho
    have n_ := an_ (blk_grown (pk_ BK105.out) hg (Kd.R_ne HO111.out BK105.out (by decide))) <| an_ (hb) <| Aside0.mk (ho)
    clear BK105 HB HO111;obtain ⟨BK105,HB,HO114⟩:=n_;clear ho hb hg hat;refine hK.out _ _ ⟨(blk_cell BK105.out 0).trans rfl,(blk_cell BK105.out 1).trans rfl,(blk_cell BK105.out 2).trans rfl,(blk_cell BK105.out 3).trans rfl⟩ (fun hHeld=>?_);clear hK K;refine nx_ (N:=some 9) ?_;refine one_ (i:=9) (N:=some 12) (bz 11 1023) rfl rfl (one_of HT_.out (by kernel_rfl)) (by decide) (fun K hK=>?_);refine Kd.R_append_rows_step k38 (w0:=w) w.heap.size (by rfl) (.tmp 9) (.tmp 11) 30 38 (.agg #[(.int .i64 0),(.int .i64 0),(.int .i64 0),(.int .i64 0)]) 32 rfl Try.underlying30 info38 rfl (by decide) (by omega) v113 y112 l0_1 _ _ _ (fun _=>True) (fun _=>False) rfl rfl ?aO ?aR (fun _ _ h=>h) (fun _ h=>h.elim) ?aF ?aB ?aS ?aL ?_;(case aR=>exact pC_ (Kd.C_below HR0_1.out HB.out));(case aB=>exact (pB_ HB.out));(case aF=>exact (fun _ _=>trivial));(case aO=>exact (pR_ HO114.out));(case aS=>exact (below_size (pB_ HB.out)));(case aL=>have:=LMc4.out;omega);intro v116 w11 ho hb hg hat;rw [← Ny115.out] at ho
    have n_ := an_ (blk_grown (pk_ BK105.out) hg (Kd.R_ne HO114.out BK105.out (by decide))) <| an_ (hb) <| Aside0.mk (ho)
    clear BK105 HB HO114;obtain ⟨BK105,HB,HO117⟩:=n_;clear ho hb hg hat;refine hK.out _ _ ⟨(blk_cell BK105.out 0).trans rfl,(blk_cell BK105.out 1).trans rfl,(blk_cell BK105.out 2).trans rfl,(blk_cell BK105.out 3).trans rfl⟩ (fun hHeld=>?_);clear hK K;refine nx_ (N:=some 12) ?_;refine px_ (i:=10) (N:=some 2) (bz 11 2047) (any_of HT_.out (by kernel_rfl)) ?_;refine done_ (done_of HT_.out (by kernel_rfl)) ?_
    try go_wp2
    go_ret;exact ⟨_,by first|rfl|(simp [errW_none,errW_some] <;> rfl)|(simp [*,errW_none,errW_some] <;> rfl),by (with_reducible repeat (first|apply Kd.R_alloc|apply Kd.R_drewN|apply Kd.R_drew));exact HO117.out,by repeat (first|(with_reducible first|exact HB.out|apply below_alloc|apply pw_below_drewN|apply below_drew1|refine below_set ?_ GE105.out)|exact HB.out)⟩
   ·rw [if_neg c4] at H
    exact absurd H (by simp)
  ·rw [if_neg c3] at H
   exact absurd H (by simp)
 ·rw [if_neg c2] at H
  exact absurd H (by simp)

end Go.Proofs.Ytcdangcjbijfkab.PFnExactLinePut
