-- by a program of this session's, over the kit's words
import Derived.Test.YtcdangcjbijfkabPZFnExactLinePut
import Derived.Test.YtcdangcjbijfkabPFnExactLinePutx0
import Derived.Test.YtcdangcjbijfkabPFnExactLinePutx8
namespace Go.Proofs.Ytcdangcjbijfkab.PFnExactLinePut
open Go.RowKit Go.Proofs.YtcdangcjbijfkabW.PrintWords Go.Proofs.YtcdangcjbijfkabW.PrintLast Go.Proofs.YtcdangcjbijfkabW.PrintMore Go.Proofs.YtcdangcjbijfkabV Go.Proofs.Ytcdangcjbijfkab.ZFnExactLinePut
attribute [local go_sem] max2_int min2_int max_two min_two max_three min_three max_four min_four   -- for this text's walks alone
set_option linter.unusedVariables false
set_option linter.unusedSimpArgs false

/-! ### laws_eqJobS: function 26 -/
def laws_eqJobS.l0 : Nat → List (S38) → List (S38) → Int → Option (Bool)
 | 0, _, _, _ => none
 | k + 1,x0,x1,x5=>if x5 < (x0.length:Int) then (if 0≤x5 then (if x5 < (x1.length:Int) then ((laws_eqJob.f ((rd_T38 x0 x5).f0) ((rd_T38 x0 x5).f1.f0) ((rd_T38 x0 x5).f1.f1) ((rd_T38 x0 x5).f1.f2) ((rd_T38 x1 x5).f0) ((rd_T38 x1 x5).f1.f0) ((rd_T38 x1 x5).f1.f1) ((rd_T38 x1 x5).f1.f2)).bind fun t305=>(if t305=true then (laws_eqJobS.l0 k x0 x1 (wrap64 (x5 + 1))) else (some false))) else (none)) else (none)) else (some true)
def laws_eqJobS.f (k : Nat) (l0 : List (S38)) (l1 : List (S38)) : Option (Bool) := if (l0.length : Int) = (l1.length : Int) then (laws_eqJobS.l0 k l0 l1 0) else (some false)
def laws_eqJobS.T6 : Bool × List (List Nat × List Nat) := (true, [([], []), ([], []), ([0, 1], [0, 1]), ([2], [2]), ([], []), ([], []), ([4, 5], [4, 5]), ([6], [6]), ([3, 7], [3, 7]), ([8], [8])])
def laws_eqJobS.B6 : List Nat := [0, 0, 3, 7, 0, 0, 48, 112, 255, 511]
theorem laws_eqJobS.tab6 : rtab .any (opsOf Try.f26 6) = laws_eqJobS.T6 := by kernel_rfl
theorem laws_eqJobS.bits6 : waitsOk laws_eqJobS.T6.2 laws_eqJobS.B6 = true := by kernel_rfl
set_option maxHeartbeats 8000000 in
set_option maxRecDepth 100000 in
theorem laws_eqJobS.calls (k : Nat) (A0 : Option Addr) (c0 : Nat) (l0 : List (S38)) (A1 : Option Addr) (c1 : Nat) (l1 : List (S38)) (r : Bool) (w : World) (hr0 : Kd.C k38 w A0 l0.length l0) (hc0 : l0.length ≤ c0) (hr1 : Kd.C k38 w A1 l1.length l1) (hc1 : l1.length ≤ c1) (h : laws_eqJobS.f k l0 l1 = some r) :
  Calls Try.prog 26 #[.slice A0 l0.length c0, .slice A1 l1.length c1] w fun e w' => e = .returned (.bool r) ∧ Below w.heap.size w w' := by
 have hu38 := Try.underlying38
 have HR0 := Aside0.mk hr0
 have HC0 := Aside0.mk hc0
 clear hr0 hc0
 have HR1 := Aside0.mk hr1
 have HC1 := Aside0.mk hc1
 clear hr1 hc1
 have HB := Aside0.mk (Below.refl w.heap.size w)
 have H : (if (l0.length : Int) = (l1.length : Int) then (laws_eqJobS.l0 k l0 l1 0) else (some false)) = some r := h
 clear h
 by_cases c3 : (l0.length : Int) = (l1.length : Int)
 ·rw [if_pos c3] at H
  have c3b0 : ((l0.length : Int) == (l1.length : Int)) = true := beq_iff_eq.mpr c3; have c3b1 : ((l0.length : Int) != (l1.length : Int)) = false := bne_eq_false_iff_eq.mpr c3
  have c3b2 : (l0.length == l1.length) = true := by first | simpa using c3 | (simp at c3 ⊢; omega)
  clear c3; have H' := Aside0.mk H; clear H; go_enter Try.func26, Try.ntmps26
  go_wp2
  go_loopg [5] k (fun kq v5 w' => ∃ (x5_1 : Int), v5 = .int .i64 x5_1 ∧ Aside0 (laws_eqJobS.l0 kq l0 l1 x5_1 = some r) ∧ Aside0 (kq ≤ k) ∧ Aside0 (Below w.heap.size w w'))
  case atStart => exact ⟨(0), Z28, H', ⟨Nat.le_refl _⟩, ⟨pB_ HB.out⟩⟩
  case round =>
   clear H'
   try clear c1
   try clear c2
   try clear p2
   try clear c3
   try clear c3b0
   try clear c3b1
   try clear c3b2
   obtain ⟨x5_1, rfl, HA, HK1, HB⟩ := hrel
   cases gk with
   | zero => exact absurd HA.out (by simp [laws_eqJobS.l0])
   | succ k1 =>
    have H := HA.out; clear HA; simp only [laws_eqJobS.l0] at H
    by_cases c4 : x5_1 < (l0.length : Int)
    ·rw [if_pos c4] at H
     have c4b0 : decide (x5_1 < (l0.length : Int)) = true := decide_eq_true c4; clear c4
     by_cases c5 : 0 ≤ x5_1
     ·rw [if_pos c5] at H
      have c5b0 : decide (0 ≤ x5_1) = true := decide_eq_true c5; clear c5
      by_cases c6 : x5_1 < (l1.length : Int)
      ·rw [if_pos c6] at H
       have c6b0:decide (x5_1 < (l1.length:Int))=true:=decide_eq_true c6;clear c6;obtain ⟨t305,A70,H⟩:=Option.bind_eq_some_iff.mp H;(try dsimp only at H);have A7:=Aside0.mk A70;clear A70;have HU8:=Aside0.mk H;clear H
       try go_wp2
       have n0_:=Aside0.mk (below_drew1 HB.out);clear HB;have HB:=n0_;clear n0_;have p303:0≤(x5_1:Int):=of_decide_eq_true Z27;have q303:x5_1 < (l0.length:Int):=of_decide_eq_true Z27;obtain ⟨ad303,e303,hx303_0,hx303_1,hx303_2,hx303_3⟩:=at_T38 HR0.out x5_1 p303 q303;have hw303_3:=hx303_3;have hw303_2:=hx303_2;have hw303_1:=hx303_1;have hw303_0:=hx303_0;cases e303;replace hx303_0:=(HB.out.cell (World.block_lt_of_cell? w _ hx303_0)).trans hx303_0;replace hx303_1:=(HB.out.cell (World.block_lt_of_cell? w _ hx303_1)).trans hx303_1;replace hx303_2:=(HB.out.cell (World.block_lt_of_cell? w _ hx303_2)).trans hx303_2;replace hx303_3:=(HB.out.cell (World.block_lt_of_cell? w _ hx303_3)).trans hx303_3;replace p303:=eq_true p303;replace q303:=eq_true q303;have p304:0≤(x5_1:Int):=of_decide_eq_true Z27;have q304:x5_1 < (l1.length:Int):=of_decide_eq_true Z27;obtain ⟨ad304,e304,hx304_0,hx304_1,hx304_2,hx304_3⟩:=at_T38 HR1.out x5_1 p304 q304;have hw304_3:=hx304_3;have hw304_2:=hx304_2;have hw304_1:=hx304_1;have hw304_0:=hx304_0;cases e304;replace hx304_0:=(HB.out.cell (World.block_lt_of_cell? w _ hx304_0)).trans hx304_0;replace hx304_1:=(HB.out.cell (World.block_lt_of_cell? w _ hx304_1)).trans hx304_1;replace hx304_2:=(HB.out.cell (World.block_lt_of_cell? w _ hx304_2)).trans hx304_2;replace hx304_3:=(HB.out.cell (World.block_lt_of_cell? w _ hx304_3)).trans hx304_3;replace p304:=eq_true p304;replace q304:=eq_true q304;refine start_ (n:=10) (S:=fun w'=>w'.cell? (ad303.add ((x5_1).toNat * 4))=some (.int .i64 ((rd_T38 l0 x5_1).f0))∧w'.cell? ⟨(ad303.add ((x5_1).toNat * 4)).block,(ad303.add ((x5_1).toNat * 4)).off + 1,none⟩=some (.int .i64 ((rd_T38 l0 x5_1).f1.f0))∧w'.cell? ⟨(ad303.add ((x5_1).toNat * 4)).block,(ad303.add ((x5_1).toNat * 4)).off + 2,none⟩=some (.int .i64 ((rd_T38 l0 x5_1).f1.f1))∧w'.cell? ⟨(ad303.add ((x5_1).toNat * 4)).block,(ad303.add ((x5_1).toNat * 4)).off + 3,none⟩=some (.int .i64 ((rd_T38 l0 x5_1).f1.f2))∧w'.cell? (ad304.add ((x5_1).toNat * 4))=some (.int .i64 ((rd_T38 l1 x5_1).f0))∧w'.cell? ⟨(ad304.add ((x5_1).toNat * 4)).block,(ad304.add ((x5_1).toNat * 4)).off + 1,none⟩=some (.int .i64 ((rd_T38 l1 x5_1).f1.f0))∧w'.cell? ⟨(ad304.add ((x5_1).toNat * 4)).block,(ad304.add ((x5_1).toNat * 4)).off + 2,none⟩=some (.int .i64 ((rd_T38 l1 x5_1).f1.f1))∧w'.cell? ⟨(ad304.add ((x5_1).toNat * 4)).block,(ad304.add ((x5_1).toNat * 4)).off + 3,none⟩=some (.int .i64 ((rd_T38 l1 x5_1).f1.f2))) (ds:=[]) (bz 10 0) (by kernel_rfl) rfl (by kernel_rfl) ⟨((HB.out.cell (World.block_lt_of_cell? w _ hw303_0)).trans hw303_0),((HB.out.cell (World.block_lt_of_cell? w _ hw303_1)).trans hw303_1),((HB.out.cell (World.block_lt_of_cell? w _ hw303_2)).trans hw303_2),((HB.out.cell (World.block_lt_of_cell? w _ hw303_3)).trans hw303_3),((HB.out.cell (World.block_lt_of_cell? w _ hw304_0)).trans hw304_0),((HB.out.cell (World.block_lt_of_cell? w _ hw304_1)).trans hw304_1),((HB.out.cell (World.block_lt_of_cell? w _ hw304_2)).trans hw304_2),((HB.out.cell (World.block_lt_of_cell? w _ hw304_3)).trans hw304_3)⟩ (fun hHeld=>?_);refine with_tabW laws_eqJobS.tab6 laws_eqJobS.bits6 (fun HT_ HW_=>?_);generalize wr.drew=w9 at HB hx303_0 hx303_1 hx303_2 hx303_3 hx304_0 hx304_1 hx304_2 hx304_3 hHeld ⊢;refine px_ (i:=0) (N:=some 17) (bz 10 1) (any_of HT_.out (by kernel_rfl)) ?_;refine px_ (i:=1) (N:=some 18) (bz 10 3) (any_of HT_.out (by kernel_rfl)) ?_;refine px_ (i:=2) (N:=some 19) (bz 10 7) (any_of HT_.out (by kernel_rfl)) ?_;refine px_ (i:=4) (N:=some 21) (bz 10 23) (any_of HT_.out (by kernel_rfl)) ?_;refine px_ (i:=5) (N:=some 22) (bz 10 55) (any_of HT_.out (by kernel_rfl)) ?_;refine px_ (i:=6) (N:=some 23) (bz 10 119) (any_of HT_.out (by kernel_rfl)) ?_;refine tx_ (i:=3) (N:=some 20) (bz 10 127) rfl rfl (take_ofW HT_.out HW_.out (by kernel_rfl)) hHeld Z25 ?_;refine tx_ (i:=7) (N:=some 24) (bz 10 255) rfl rfl (take_ofW HT_.out HW_.out (by kernel_rfl)) hHeld Z25 ?_
       refine one_ (i:=8) (N:=some 25) (bz 10 511) rfl rfl (one_of HT_.out (by kernel_rfl)) (by decide) (fun K hK=>?_);refine goes_ Try.func35 (by kernel_rfl) rfl #[.agg #[.int .i64 ((rd_T38 l0 x5_1).f0),.int .i64 ((rd_T38 l0 x5_1).f1.f0),.int .i64 ((rd_T38 l0 x5_1).f1.f1),.int .i64 ((rd_T38 l0 x5_1).f1.f2)],.agg #[.int .i64 ((rd_T38 l1 x5_1).f0),.int .i64 ((rd_T38 l1 x5_1).f1.f0),.int .i64 ((rd_T38 l1 x5_1).f1.f1),.int .i64 ((rd_T38 l1 x5_1).f1.f2)]] (by rfl) rfl rfl Z22 ?_;with_reducible refine (laws_eqJob.calls ((rd_T38 l0 x5_1).f0) ((rd_T38 l0 x5_1).f1.f0) ((rd_T38 l0 x5_1).f1.f1) ((rd_T38 l0 x5_1).f1.f2) ((rd_T38 l1 x5_1).f0) ((rd_T38 l1 x5_1).f1.f0) ((rd_T38 l1 x5_1).f1.f1) ((rd_T38 l1 x5_1).f1.f2) t305 _ A7.out).mono ?_
       rintro e w10 ⟨rfl,hb⟩;refine ⟨_,rfl,?_⟩;have n0_:=Aside0.mk (below_step (pB_ HB.out) hb);clear HB;have HB:=n0_;clear n0_;(try clear hb);(try clear hb2);(try clear hk);(try clear hi);refine hK.out _ _ ⟨((HB.out.cell (World.block_lt_of_cell? w _ hw303_0)).trans hw303_0),((HB.out.cell (World.block_lt_of_cell? w _ hw303_1)).trans hw303_1),((HB.out.cell (World.block_lt_of_cell? w _ hw303_2)).trans hw303_2),((HB.out.cell (World.block_lt_of_cell? w _ hw303_3)).trans hw303_3),((HB.out.cell (World.block_lt_of_cell? w _ hw304_0)).trans hw304_0),((HB.out.cell (World.block_lt_of_cell? w _ hw304_1)).trans hw304_1),((HB.out.cell (World.block_lt_of_cell? w _ hw304_2)).trans hw304_2),((HB.out.cell (World.block_lt_of_cell? w _ hw304_3)).trans hw304_3)⟩ (fun hHeld=>?_);clear hK K;refine nx_ (N:=some 25) ?_;refine px_ (i:=9) (N:=some 26) (bz 10 1023) (any_of HT_.out (by kernel_rfl)) ?_;refine done_ (done_of HT_.out (by kernel_rfl)) ?_
       go_upto_if 26 with (fail)
       have H := HU8.out; clear HU8
       by_cases c11 : t305 = true
       ·subst c11
        rw [if_pos rfl] at H; have H' := Aside0.mk H; clear H
        go_wp2
        go_roundg k1
        case measure => have := HK1.out; omega
        case rel => exact ⟨(wrap64 (x5_1 + 1)), Z28, H', ⟨by have := HK1.out; omega⟩, ⟨pB_ HB.out⟩⟩
       ·replace c11 := Bool.eq_false_iff.mpr c11
        subst c11; rw [if_neg (show ¬ (false = true) by decide)] at H; obtain rfl := Option.some.inj H
        go_wp2
        go_ret;exact ⟨by first|rfl|(simp [errW_none,errW_some] <;> rfl)|(simp [*,errW_none,errW_some] <;> rfl),by repeat (first|(with_reducible first|exact HB.out|apply below_alloc|apply pw_below_drewN|apply below_drew1)|exact HB.out)⟩
      ·rw [if_neg c6] at H
       exact absurd H (by simp)
     ·rw [if_neg c5] at H
      exact absurd H (by simp)
    ·rw [if_neg c4] at H
     have c4b0 : decide (x5_1 < (l0.length : Int)) = false := decide_eq_false c4; clear c4; obtain rfl := Option.some.inj H
     go_wp2
     go_ret;exact ⟨by first|rfl|(simp [errW_none,errW_some] <;> rfl)|(simp [*,errW_none,errW_some] <;> rfl),by repeat (first|(with_reducible first|exact HB.out|apply below_alloc|apply pw_below_drewN|apply below_drew1)|exact HB.out)⟩
 ·rw [if_neg c3] at H
  have c3b0 : ((l0.length : Int) == (l1.length : Int)) = false := beq_eq_false_iff_ne.mpr c3; have c3b1 : ((l0.length : Int) != (l1.length : Int)) = true := bne_iff_ne.mpr c3
  have c3b2 : (l0.length == l1.length) = false := by first | simpa using c3 | (simp at c3 ⊢; omega)
  obtain rfl := Option.some.inj H; go_enter Try.func26, Try.ntmps26
  go_wp2
  go_ret;exact ⟨by first|rfl|(simp [errW_none,errW_some] <;> rfl)|(simp [*,errW_none,errW_some] <;> rfl),by repeat (first|(with_reducible first|exact HB.out|apply below_alloc|apply pw_below_drewN|apply below_drew1)|exact HB.out)⟩

/-! ### laws_eqLine: function 9 -/
def laws_eqLine.f (k : Nat) (a0_0 : Int) (l0_1 : List (S38)) (l0_2 : List (S38)) (l0_3 : List (S38)) (a1_0 : Int) (l1_1 : List (S38)) (l1_2 : List (S38)) (l1_3 : List (S38)) : Option (Bool) := if a0_0 = a1_0 then ((laws_eqJobS.f k l0_1 l1_1).bind fun t308 => (if t308 = true then ((laws_eqJobS.f k l0_2 l1_2).bind fun t309 => (if t309 = true then ((laws_eqJobS.f k l0_3 l1_3).bind fun t310 => (if t310 = true then (some true) else (some false))) else (some false))) else (some false))) else (some false)
set_option maxHeartbeats 8000000 in
set_option maxRecDepth 100000 in
theorem laws_eqLine.calls (k : Nat) (a0_0 : Int) (A0_1 : Option Addr) (c0_1 : Nat) (l0_1 : List (S38)) (A0_2 : Option Addr) (c0_2 : Nat) (l0_2 : List (S38)) (A0_3 : Option Addr) (c0_3 : Nat) (l0_3 : List (S38)) (a1_0 : Int) (A1_1 : Option Addr) (c1_1 : Nat) (l1_1 : List (S38)) (A1_2 : Option Addr) (c1_2 : Nat) (l1_2 : List (S38)) (A1_3 : Option Addr) (c1_3 : Nat) (l1_3 : List (S38)) (r : Bool) (w : World) (hr0_1 : Kd.C k38 w A0_1 l0_1.length l0_1) (hc0_1 : l0_1.length ≤ c0_1) (hr0_2 : Kd.C k38 w A0_2 l0_2.length l0_2) (hc0_2 : l0_2.length ≤ c0_2) (hr0_3 : Kd.C k38 w A0_3 l0_3.length l0_3) (hc0_3 : l0_3.length ≤ c0_3) (hr1_1 : Kd.C k38 w A1_1 l1_1.length l1_1) (hc1_1 : l1_1.length ≤ c1_1) (hr1_2 : Kd.C k38 w A1_2 l1_2.length l1_2) (hc1_2 : l1_2.length ≤ c1_2) (hr1_3 : Kd.C k38 w A1_3 l1_3.length l1_3) (hc1_3 : l1_3.length ≤ c1_3) (h : laws_eqLine.f k a0_0 l0_1 l0_2 l0_3 a1_0 l1_1 l1_2 l1_3 = some r) :
  Calls Try.prog 9 #[.agg #[.int .i64 a0_0,.slice A0_1 l0_1.length c0_1,.slice A0_2 l0_2.length c0_2,.slice A0_3 l0_3.length c0_3],.agg #[.int .i64 a1_0,.slice A1_1 l1_1.length c1_1,.slice A1_2 l1_2.length c1_2,.slice A1_3 l1_3.length c1_3]] w fun e w'=>e=.returned (.bool r)∧Below w.heap.size w w':=by
 have hu32 := Try.underlying32
 have HR0_1 := Aside0.mk hr0_1
 have HC0_1 := Aside0.mk hc0_1
 clear hr0_1 hc0_1
 have HR0_2 := Aside0.mk hr0_2
 have HC0_2 := Aside0.mk hc0_2
 clear hr0_2 hc0_2
 have HR0_3 := Aside0.mk hr0_3
 have HC0_3 := Aside0.mk hc0_3
 clear hr0_3 hc0_3
 have HR1_1 := Aside0.mk hr1_1
 have HC1_1 := Aside0.mk hc1_1
 clear hr1_1 hc1_1
 have HR1_2 := Aside0.mk hr1_2
 have HC1_2 := Aside0.mk hc1_2
 clear hr1_2 hc1_2
 have HR1_3 := Aside0.mk hr1_3
 have HC1_3 := Aside0.mk hc1_3
 clear hr1_3 hc1_3
 have HB := Aside0.mk (Below.refl w.heap.size w)
 have H:(if a0_0=a1_0 then ((laws_eqJobS.f k l0_1 l1_1).bind fun t308=>(if t308=true then ((laws_eqJobS.f k l0_2 l1_2).bind fun t309=>(if t309=true then ((laws_eqJobS.f k l0_3 l1_3).bind fun t310=>(if t310=true then (some true) else (some false))) else (some false))) else (some false))) else (some false))=some r:=h
 clear h
 have HU3 := Aside0.mk H
 clear H
 go_enter Try.func9, Try.ntmps9
 go_upto_if 9 with (first|((with_reducible refine gate_dst (N:=2) rfl ?_);refine box_event ?hg (N:=2) ?hd (cs:=#[.int .i64 a0_0,.slice A0_1 l0_1.length c0_1,.slice A0_2 l0_2.length c0_2,.slice A0_3 l0_3.length c0_3]) (t:=32) ?hr ?_;(case hd=>rfl);(case hg=>rfl);(case hr=>first|(go_simp;done)|(go_simp;rfl));intro gb306 hg w4 hbox hb;have n_:=an_ (below_step (pB_ HB.out) hb)<|an_ (hbox)<|an_ ((by rw [hg];exact (below_size (pB_ HB.out)):w.heap.size≤gb306))<|Aside0.mk ((by rw [hg];exact (below_size (pB_ HB.out)):w.heap.size≤gb306));clear HB;obtain ⟨HB,BK306,GW306,GE306⟩:=n_;clear hb hbox hg)|((with_reducible refine gate_dst (N:=3) rfl ?_);refine box_event ?hg (N:=3) ?hd (cs:=#[.int .i64 a1_0,.slice A1_1 l1_1.length c1_1,.slice A1_2 l1_2.length c1_2,.slice A1_3 l1_3.length c1_3]) (t:=32) ?hr ?_;(case hd=>rfl);(case hg=>rfl);(case hr=>first|(go_simp;done)|(go_simp;rfl));intro gb307 hg w5 hbox hb;have n_:=an_ (blk_below (pk_ BK306.out) hb)<|an_ (below_step (pB_ HB.out) hb)<|an_ (hbox)<|an_ ((by rw [hg];exact (below_size (pB_ HB.out)):w.heap.size≤gb307))<|an_ ((by rw [hg];exact (below_size (pB_ HB.out)):w.heap.size≤gb307))<|an_ ((by rw [hg];exact Nat.ne_of_lt (blk_lt (pk_ BK306.out)):gb306≠gb307))<|Aside0.mk ((by rw [hg];exact Nat.ne_of_gt (blk_lt (pk_ BK306.out)):gb307≠gb306));clear BK306 HB;obtain ⟨BK306,HB,BK307,GW307,GE307,NB306_307,NB307_306⟩:=n_;clear hb hbox hg;(try have hnb6:=NB306_307.out);(try have hnc6:=NB307_306.out);have hcz7_0:w5.cell? ⟨gb306,0,none⟩=some (.int .i64 a0_0):=(blk_cell BK306.out 0).trans rfl;have hcz7_1:w5.cell? ⟨gb306,1,none⟩=some (.slice A0_1 l0_1.length c0_1):=(blk_cell BK306.out 1).trans rfl;have hcz7_2:w5.cell? ⟨gb306,2,none⟩=some (.slice A0_2 l0_2.length c0_2):=(blk_cell BK306.out 2).trans rfl;have hcz7_3:w5.cell? ⟨gb306,3,none⟩=some (.slice A0_3 l0_3.length c0_3):=(blk_cell BK306.out 3).trans rfl;have hfz7_0:=blk_frozen BK306.out 0;have hfz7_1:=blk_frozen BK306.out 1;have hfz7_2:=blk_frozen BK306.out 2;have hfz7_3:=blk_frozen BK306.out 3;have hcz8_0:w5.cell? ⟨gb307,0,none⟩=some (.int .i64 a1_0):=(blk_cell BK307.out 0).trans rfl;have hcz8_1:w5.cell? ⟨gb307,1,none⟩=some (.slice A1_1 l1_1.length c1_1):=(blk_cell BK307.out 1).trans rfl;have hcz8_2:w5.cell? ⟨gb307,2,none⟩=some (.slice A1_2 l1_2.length c1_2):=(blk_cell BK307.out 2).trans rfl;have hcz8_3:w5.cell? ⟨gb307,3,none⟩=some (.slice A1_3 l1_3.length c1_3):=(blk_cell BK307.out 3).trans rfl;have hfz8_0:=blk_frozen BK307.out 0;have hfz8_1:=blk_frozen BK307.out 1;have hfz8_2:=blk_frozen BK307.out 2;have hfz8_3:=blk_frozen BK307.out 3))
 have H := HU3.out
 clear HU3
 by_cases c9 : a0_0 = a1_0
 ·rw [if_pos c9] at H
  have c9b0:(a0_0 == a1_0)=true:=beq_iff_eq.mpr c9;have c9b1:(a0_0 != a1_0)=false:=bne_eq_false_iff_eq.mpr c9;clear c9;(first|rw [c9b0]|(simp only [i64_w,i32_w];rw [c9b0])|(have cz_:=c9b0;simp only [bne,gt_iff_lt,Int.natCast_pos] at cz_;first|rw [cz_]|(simp only [i64_w,i32_w];rw [cz_]))|skip);obtain ⟨t308,A100,H⟩:=Option.bind_eq_some_iff.mp H;(try dsimp only at H);have A10:=Aside0.mk A100;clear A100;have HU11:=Aside0.mk H;clear H;(try have hnb12:=NB306_307.out);(try have hnc12:=NB307_306.out);obtain ⟨hcz13_0,hcz13_1,hcz13_2,hcz13_3,hfz13_0,hfz13_1,hfz13_2,hfz13_3⟩:=cells4 BK306.out;obtain ⟨hcz14_0,hcz14_1,hcz14_2,hcz14_3,hfz14_0,hfz14_1,hfz14_2,hfz14_3⟩:=cells4 BK307.out
  go_upto_if 15 with (first|((with_reducible refine gate_callee (f:=26) rfl ?_);refine goesL_ (some 14) rfl rfl Try.func26 (by kernel_rfl) rfl #[.slice A0_1 l0_1.length c0_1,.slice A1_1 l1_1.length c1_1] rfl Z22 ?_;(with_reducible refine (laws_eqJobS.calls k _ _ l0_1 _ _ l1_1 t308 _ ?side1 ?side2 ?side3 ?side4 A10.out).mono ?_);(case side1=>exact pC_ (Kd.C_below HR0_1.out HB.out));(case side2=>exact HC0_1.out);(case side3=>exact pC_ (Kd.C_below HR1_1.out HB.out));(case side4=>exact HC1_1.out);rintro e w15 ⟨rfl,hb⟩;refine ⟨_,rfl,?_⟩;have n_:=an_ (blk_below (pk_ BK306.out) hb)<|an_ (blk_below (pk_ BK307.out) hb)<|Aside0.mk (below_step (pB_ HB.out) hb);clear BK306 BK307 HB;obtain ⟨BK306,BK307,HB⟩:=n_;(try clear hb);(try clear hb2);(try clear hk);(try clear hi)))
  have H := HU11.out; clear HU11
  by_cases c16 : t308 = true
  ·subst c16
   rw [if_pos rfl] at H;obtain ⟨t309,A170,H⟩:=Option.bind_eq_some_iff.mp H;(try dsimp only at H);have A17:=Aside0.mk A170;clear A170;have HU18:=Aside0.mk H;clear H;(try have hnb19:=NB306_307.out);(try have hnc19:=NB307_306.out);obtain ⟨hcz20_0,hcz20_1,hcz20_2,hcz20_3,hfz20_0,hfz20_1,hfz20_2,hfz20_3⟩:=cells4 BK306.out;obtain ⟨hcz21_0,hcz21_1,hcz21_2,hcz21_3,hfz21_0,hfz21_1,hfz21_2,hfz21_3⟩:=cells4 BK307.out
   go_upto_if 21 with (first|((with_reducible refine gate_callee (f:=26) rfl ?_);refine goesL_ (some 20) rfl rfl Try.func26 (by kernel_rfl) rfl #[.slice A0_2 l0_2.length c0_2,.slice A1_2 l1_2.length c1_2] rfl Z22 ?_;(with_reducible refine (laws_eqJobS.calls k _ _ l0_2 _ _ l1_2 t309 _ ?side1 ?side2 ?side3 ?side4 A17.out).mono ?_);(case side1=>exact pC_ (Kd.C_below HR0_2.out HB.out));(case side2=>exact HC0_2.out);(case side3=>exact pC_ (Kd.C_below HR1_2.out HB.out));(case side4=>exact HC1_2.out);rintro e w22 ⟨rfl,hb⟩;refine ⟨_,rfl,?_⟩;have n_:=an_ (blk_below (pk_ BK306.out) hb)<|an_ (blk_below (pk_ BK307.out) hb)<|Aside0.mk (below_step (pB_ HB.out) hb);clear BK306 BK307 HB;obtain ⟨BK306,BK307,HB⟩:=n_;(try clear hb);(try clear hb2);(try clear hk);(try clear hi)))
   have H := HU18.out; clear HU18
   by_cases c23 : t309 = true
   ·subst c23
    rw [if_pos rfl] at H;obtain ⟨t310,A240,H⟩:=Option.bind_eq_some_iff.mp H;(try dsimp only at H);have A24:=Aside0.mk A240;clear A240;have HU25:=Aside0.mk H;clear H;(try have hnb26:=NB306_307.out);(try have hnc26:=NB307_306.out);obtain ⟨hcz27_0,hcz27_1,hcz27_2,hcz27_3,hfz27_0,hfz27_1,hfz27_2,hfz27_3⟩:=cells4 BK306.out;obtain ⟨hcz28_0,hcz28_1,hcz28_2,hcz28_3,hfz28_0,hfz28_1,hfz28_2,hfz28_3⟩:=cells4 BK307.out
    go_upto_if 27 with (first|((with_reducible refine gate_callee (f:=26) rfl ?_);refine goesL_ (some 26) rfl rfl Try.func26 (by kernel_rfl) rfl #[.slice A0_3 l0_3.length c0_3,.slice A1_3 l1_3.length c1_3] rfl Z22 ?_;(with_reducible refine (laws_eqJobS.calls k _ _ l0_3 _ _ l1_3 t310 _ ?side1 ?side2 ?side3 ?side4 A24.out).mono ?_);(case side1=>exact pC_ (Kd.C_below HR0_3.out HB.out));(case side2=>exact HC0_3.out);(case side3=>exact pC_ (Kd.C_below HR1_3.out HB.out));(case side4=>exact HC1_3.out);rintro e w29 ⟨rfl,hb⟩;refine ⟨_,rfl,?_⟩;have n_:=an_ (blk_below (pk_ BK306.out) hb)<|an_ (blk_below (pk_ BK307.out) hb)<|Aside0.mk (below_step (pB_ HB.out) hb);clear BK306 BK307 HB;obtain ⟨BK306,BK307,HB⟩:=n_;(try clear hb);(try clear hb2);(try clear hk);(try clear hi)))
    have H := HU25.out; clear HU25
    by_cases c30 : t310 = true
    ·subst c30
     rw [if_pos rfl] at H; obtain rfl := Option.some.inj H
     go_wp2
     go_ret;exact ⟨by first|rfl|(simp [errW_none,errW_some] <;> rfl)|(simp [*,errW_none,errW_some] <;> rfl),by repeat (first|(with_reducible first|exact HB.out|apply below_alloc|apply pw_below_drewN|apply below_drew1|refine below_set ?_ GE306.out|refine below_set ?_ GE307.out)|exact HB.out)⟩
    ·replace c30 := Bool.eq_false_iff.mpr c30
     subst c30; rw [if_neg (show ¬ (false = true) by decide)] at H; obtain rfl := Option.some.inj H
     go_wp2
     go_ret;exact ⟨by first|rfl|(simp [errW_none,errW_some] <;> rfl)|(simp [*,errW_none,errW_some] <;> rfl),by repeat (first|(with_reducible first|exact HB.out|apply below_alloc|apply pw_below_drewN|apply below_drew1|refine below_set ?_ GE306.out|refine below_set ?_ GE307.out)|exact HB.out)⟩
   ·replace c23 := Bool.eq_false_iff.mpr c23
    subst c23; rw [if_neg (show ¬ (false = true) by decide)] at H; obtain rfl := Option.some.inj H
    go_wp2
    go_ret;exact ⟨by first|rfl|(simp [errW_none,errW_some] <;> rfl)|(simp [*,errW_none,errW_some] <;> rfl),by repeat (first|(with_reducible first|exact HB.out|apply below_alloc|apply pw_below_drewN|apply below_drew1|refine below_set ?_ GE306.out|refine below_set ?_ GE307.out)|exact HB.out)⟩
  ·replace c16 := Bool.eq_false_iff.mpr c16
   subst c16; rw [if_neg (show ¬ (false = true) by decide)] at H; obtain rfl := Option.some.inj H
   go_wp2
   go_ret;exact ⟨by first|rfl|(simp [errW_none,errW_some] <;> rfl)|(simp [*,errW_none,errW_some] <;> rfl),by repeat (first|(with_reducible first|exact HB.out|apply below_alloc|apply pw_below_drewN|apply below_drew1|refine below_set ?_ GE306.out|refine below_set ?_ GE307.out)|exact HB.out)⟩
 ·rw [if_neg c9] at H
  have c9b0:(a0_0 == a1_0)=false:=beq_eq_false_iff_ne.mpr c9;have c9b1:(a0_0 != a1_0)=true:=bne_iff_ne.mpr c9;(first|rw [c9b0]|(simp only [i64_w,i32_w];rw [c9b0])|(have cz_:=c9b0;simp only [bne,gt_iff_lt,Int.natCast_pos] at cz_;first|rw [cz_]|(simp only [i64_w,i32_w];rw [cz_]))|skip);obtain rfl:=Option.some.inj H
  go_wp2
  go_ret;exact ⟨by first|rfl|(simp [errW_none,errW_some] <;> rfl)|(simp [*,errW_none,errW_some] <;> rfl),by repeat (first|(with_reducible first|exact HB.out|apply below_alloc|apply pw_below_drewN|apply below_drew1|refine below_set ?_ GE306.out|refine below_set ?_ GE307.out)|exact HB.out)⟩

/-! ### laws_markJobS: function 27 -/
def laws_markJobS.l0 : Nat → List (S38) → Int → Int → Option (Int × (List (S38)))
 | 0, _, _, _ => none
 | k + 1,x0,x1,x5=>if x5 < (x0.length:Int) then (if 0≤x5 then ((some (x0.set (x5:Int).toNat (⟨x1,(⟨(rd_T38 x0 x5).f1.f0,(rd_T38 x0 x5).f1.f1,(rd_T38 x0 x5).f1.f2⟩:S36)⟩:S38):List (S38))).bind fun y311=>((some (y311.set (x5:Int).toNat (⟨(rd_T38 y311 x5).f0,(⟨wrap64 (x1 + 1),(rd_T38 y311 x5).f1.f1,(rd_T38 y311 x5).f1.f2⟩:S36)⟩:S38):List (S38))).bind fun y312=>((some (y312.set (x5:Int).toNat (⟨(rd_T38 y312 x5).f0,(⟨(rd_T38 y312 x5).f1.f0,wrap64 ((wrap64 (x1 + 1)) + 1),(rd_T38 y312 x5).f1.f2⟩:S36)⟩:S38):List (S38))).bind fun y313=>(laws_markJobS.l0 k (y313.set (x5:Int).toNat (⟨(rd_T38 y313 x5).f0,(⟨(rd_T38 y313 x5).f1.f0,(rd_T38 y313 x5).f1.f1,wrap64 ((wrap64 ((wrap64 (x1 + 1)) + 1)) + 1)⟩:S36)⟩:S38)) (wrap64 ((wrap64 ((wrap64 ((wrap64 (x1 + 1)) + 1)) + 1)) + 1)) (wrap64 (x5 + 1)))))) else (none)) else (some (x1,x0))
def laws_markJobS.f (k : Nat) (l0 : List (S38)) (a1 : Int) : Option (Int × (List (S38))) := laws_markJobS.l0 k l0 a1 0
set_option maxHeartbeats 8000000 in
set_option maxRecDepth 100000 in
theorem laws_markJobS.calls (k : Nat) (P0_ : Nat → Prop) (u9000_ : Value) (l0 : List (S38)) (a1 : Int) (r1 : Int) (r2 : List (S38)) (w0 w : World) (hB : Below w0.heap.size w0 w) (ho0 : Kd.R k38 38 w w0.heap.size P0_ u9000_ l0) (h : laws_markJobS.f k l0 a1 = some (r1, r2)) :
  Calls Try.prog 27 #[u9000_,.int .i64 a1] w fun e w'=>e=.returned (.int .i64 r1)∧Kd.R k38 38 w' w0.heap.size (fun k_=>(P0_ k_ ∨ w.heap.size≤k_)) u9000_ r2∧Below w0.heap.size w0 w'∧Kept w w' (fun k_=>P0_ k_):=by
 have Oa := Aside0.mk (show Kd.R k38 38 w w0.heap.size (fun k_ => (P0_ k_ ∨ w.heap.size ≤ k_)) u9000_ l0 from Kd.R_mono ho0 (fun k_ hk => (.inl hk)))
 have HK := Aside0.mk (Kept.refl w (fun k_ => P0_ k_))
 have HW0 := Aside0.mk hB.size
 have HB := Aside0.mk hB
 clear hB
 have H : (laws_markJobS.l0 k l0 a1 0) = some (r1, r2) := h
 clear h
 have H' := Aside0.mk H
 clear H
 go_enter Try.func27, Try.ntmps27
 go_wp2
 go_loopg [1,5] k (fun kq v1 v5 w'=>∃ (x0_1:List (S38)) (x1_1:Int) (x5_1:Int),v1=.int .i64 x1_1∧v5=.int .i64 x5_1∧Aside0 (laws_markJobS.l0 kq x0_1 x1_1 x5_1=some (r1,r2))∧Aside0 (kq≤k)∧Aside0 (Kd.R k38 38 w' w0.heap.size (fun k_=>(P0_ k_ ∨ w.heap.size≤k_)) u9000_ x0_1)∧Aside0 (Kept w w' (fun k_=>P0_ k_))∧Aside0 (Below w0.heap.size w0 w'))
 case atStart=>exact ⟨(l0),(a1),(0),Z28,Z28,H',⟨Nat.le_refl _⟩,⟨pR_ Oa.out⟩,⟨by repeat (first|(with_reducible first|exact HK.out|apply Kept.alloc|apply Kept.drewN|apply Kept.drew)|exact HK.out)⟩,⟨pB_ HB.out⟩⟩
 case round =>
  clear H'
  try clear c2
  try clear p2
  obtain ⟨x0_1, x1_1, x5_1, rfl, rfl, HA, HK1, Ja, HK, HB⟩ := hrel
  cases gk with
  | zero => exact absurd HA.out (by simp [laws_markJobS.l0])
  | succ k1 =>
   have H := HA.out; clear HA; simp only [laws_markJobS.l0] at H
   by_cases c3 : x5_1 < (x0_1.length : Int)
   ·rw [if_pos c3] at H
    have c3b0 : decide (x5_1 < (x0_1.length : Int)) = true := decide_eq_true c3; clear c3
    by_cases c4 : 0 ≤ x5_1
    ·rw [if_pos c4] at H
     have c4b0:decide (0≤x5_1)=true:=decide_eq_true c4;clear c4;obtain ⟨y311,hy311⟩:∃ y_:List (S38),y_=(x0_1.set (x5_1:Int).toNat (⟨x1_1,(⟨(rd_T38 x0_1 x5_1).f1.f0,(rd_T38 x0_1 x5_1).f1.f1,(rd_T38 x0_1 x5_1).f1.f2⟩:S36)⟩:S38)):=⟨_,rfl⟩
     replace H:((some (y311.set (x5_1:Int).toNat (⟨(rd_T38 y311 x5_1).f0,(⟨wrap64 (x1_1 + 1),(rd_T38 y311 x5_1).f1.f1,(rd_T38 y311 x5_1).f1.f2⟩:S36)⟩:S38):List (S38))).bind fun y312=>((some (y312.set (x5_1:Int).toNat (⟨(rd_T38 y312 x5_1).f0,(⟨(rd_T38 y312 x5_1).f1.f0,wrap64 ((wrap64 (x1_1 + 1)) + 1),(rd_T38 y312 x5_1).f1.f2⟩:S36)⟩:S38):List (S38))).bind fun y313=>(laws_markJobS.l0 k1 (y313.set (x5_1:Int).toNat (⟨(rd_T38 y313 x5_1).f0,(⟨(rd_T38 y313 x5_1).f1.f0,(rd_T38 y313 x5_1).f1.f1,wrap64 ((wrap64 ((wrap64 (x1_1 + 1)) + 1)) + 1)⟩:S36)⟩:S38)) (wrap64 ((wrap64 ((wrap64 ((wrap64 (x1_1 + 1)) + 1)) + 1)) + 1)) (wrap64 (x5_1 + 1)))))=some (r1,r2):=by first|(rw [hy311];with_reducible exact H)|(have H2_:=(Option.bind_some _ _).symm.trans H;rw [hy311];with_reducible exact H2_)|(have H2_:=(Option.bind_some _ _).symm.trans H;with_reducible exact H2_)|with_reducible exact H|(rw [hy311];exact H)|exact H
     have Ny311:=Aside0.mk hy311;clear hy311;obtain ⟨y312,hy312⟩:∃ y_:List (S38),y_=(y311.set (x5_1:Int).toNat (⟨(rd_T38 y311 x5_1).f0,(⟨wrap64 (x1_1 + 1),(rd_T38 y311 x5_1).f1.f1,(rd_T38 y311 x5_1).f1.f2⟩:S36)⟩:S38)):=⟨_,rfl⟩
     replace H:((some (y312.set (x5_1:Int).toNat (⟨(rd_T38 y312 x5_1).f0,(⟨(rd_T38 y312 x5_1).f1.f0,wrap64 ((wrap64 (x1_1 + 1)) + 1),(rd_T38 y312 x5_1).f1.f2⟩:S36)⟩:S38):List (S38))).bind fun y313=>(laws_markJobS.l0 k1 (y313.set (x5_1:Int).toNat (⟨(rd_T38 y313 x5_1).f0,(⟨(rd_T38 y313 x5_1).f1.f0,(rd_T38 y313 x5_1).f1.f1,wrap64 ((wrap64 ((wrap64 (x1_1 + 1)) + 1)) + 1)⟩:S36)⟩:S38)) (wrap64 ((wrap64 ((wrap64 ((wrap64 (x1_1 + 1)) + 1)) + 1)) + 1)) (wrap64 (x5_1 + 1))))=some (r1,r2):=by first|(rw [hy312];with_reducible exact H)|(have H2_:=(Option.bind_some _ _).symm.trans H;rw [hy312];with_reducible exact H2_)|(have H2_:=(Option.bind_some _ _).symm.trans H;with_reducible exact H2_)|with_reducible exact H|(rw [hy312];exact H)|exact H
     have Ny312:=Aside0.mk hy312;clear hy312;obtain ⟨y313,hy313⟩:∃ y_:List (S38),y_=(y312.set (x5_1:Int).toNat (⟨(rd_T38 y312 x5_1).f0,(⟨(rd_T38 y312 x5_1).f1.f0,wrap64 ((wrap64 (x1_1 + 1)) + 1),(rd_T38 y312 x5_1).f1.f2⟩:S36)⟩:S38)):=⟨_,rfl⟩
     replace H:(laws_markJobS.l0 k1 (y313.set (x5_1:Int).toNat (⟨(rd_T38 y313 x5_1).f0,(⟨(rd_T38 y313 x5_1).f1.f0,(rd_T38 y313 x5_1).f1.f1,wrap64 ((wrap64 ((wrap64 (x1_1 + 1)) + 1)) + 1)⟩:S36)⟩:S38)) (wrap64 ((wrap64 ((wrap64 ((wrap64 (x1_1 + 1)) + 1)) + 1)) + 1)) (wrap64 (x5_1 + 1)))=some (r1,r2):=by first|(rw [hy313];with_reducible exact H)|(have H2_:=(Option.bind_some _ _).symm.trans H;rw [hy313];with_reducible exact H2_)|(have H2_:=(Option.bind_some _ _).symm.trans H;with_reducible exact H2_)|with_reducible exact H|(rw [hy313];exact H)|exact H
     have Ny313:=Aside0.mk hy313;clear hy313;obtain ⟨y314,hy314⟩:∃ y_:List (S38),y_=(y313.set (x5_1:Int).toNat (⟨(rd_T38 y313 x5_1).f0,(⟨(rd_T38 y313 x5_1).f1.f0,(rd_T38 y313 x5_1).f1.f1,wrap64 ((wrap64 ((wrap64 (x1_1 + 1)) + 1)) + 1)⟩:S36)⟩:S38)):=⟨_,rfl⟩
     replace H:(laws_markJobS.l0 k1 y314 (wrap64 ((wrap64 ((wrap64 ((wrap64 (x1_1 + 1)) + 1)) + 1)) + 1)) (wrap64 (x5_1 + 1)))=some (r1,r2):=by first|(rw [hy314];with_reducible exact H)|(have H2_:=(Option.bind_some _ _).symm.trans H;rw [hy314];with_reducible exact H2_)|(have H2_:=(Option.bind_some _ _).symm.trans H;with_reducible exact H2_)|with_reducible exact H|(rw [hy314];exact H)|exact H
     have Ny314:=Aside0.mk hy314;clear hy314;have H':=Aside0.mk H;clear H;obtain ⟨Ua,Ka,eo9⟩:=Kd.R_slice Ja.out;subst eo9;have p5:0≤(x5_1:Int):=of_decide_eq_true Z27;have q5:(x5_1:Int) < ((x0_1.length:Int):Int):=of_decide_eq_true Z27;obtain ⟨go5,Xa,eo5,Ma,gl5,cl5,HG5⟩:=Kd.R_form Ja.out (by omega);(first|cases eo5|(injection eo5 with ea_ en_ ec_;(first|subst ea_|(injection ea_ with ea_;subst ea_));subst ec_;clear en_));have GB5:=Aside0.mk Ma;have GG5:=Aside0.mk HG5;clear Ma gl5 HG5;have HMgo5:=Aside0.mk (show (P0_ go5 ∨ w.heap.size≤go5) from (Ja.out.1 _ rfl));obtain ⟨ce5,hcl5,hM5,hcc5,hfr5⟩:=Kd.R_elem Ja.out z38 (x5_1:Int) p5 q5;obtain rfl:=k38_openM hM5;have hx5_0:wr.cell? ⟨go5,(x5_1:Int).toNat * 4,none⟩=some (.int .i64 ((rd_T38 x0_1 x5_1).f0)):=hcc5 0 _ rfl;have hx5_1:wr.cell? ⟨go5,(x5_1:Int).toNat * 4 + 1,none⟩=some (.int .i64 ((rd_T38 x0_1 x5_1).f1.f0)):=hcc5 1 _ rfl;have hx5_2:wr.cell? ⟨go5,(x5_1:Int).toNat * 4 + 2,none⟩=some (.int .i64 ((rd_T38 x0_1 x5_1).f1.f1)):=hcc5 2 _ rfl;have hx5_3:wr.cell? ⟨go5,(x5_1:Int).toNat * 4 + 3,none⟩=some (.int .i64 ((rd_T38 x0_1 x5_1).f1.f2)):=hcc5 3 _ rfl;have hf5_0:wr.frozen? ⟨go5,(x5_1:Int).toNat * 4,none⟩=false:=hfr5 0;have hf5_1:wr.frozen? ⟨go5,(x5_1:Int).toNat * 4 + 1,none⟩=false:=hfr5 1;have hf5_2:wr.frozen? ⟨go5,(x5_1:Int).toNat * 4 + 2,none⟩=false:=hfr5 2;have hf5_3:wr.frozen? ⟨go5,(x5_1:Int).toNat * 4 + 3,none⟩=false:=hfr5 3;clear hcl5 hcc5 hfr5 hM5;replace p5:=eq_true p5;replace q5:=eq_true q5;have HX10:=Aside0.mk (show Kd.R k38 38 wr w0.heap.size (fun k_=>(P0_ k_ ∨ w.heap.size≤k_)) (.slice (some ⟨go5,0,none⟩) x0_1.length Ka) x0_1 from (pR_ Ja.out));obtain ⟨ce10,hcl10,hM10,hcc10,hfr10⟩:=Kd.R_elem HX10.out z38 (x5_1:Int) (of_decide_eq_true Z27) (by have h_:(x5_1:Int) < ((x0_1.length:Int):Int):=of_decide_eq_true Z27;first|exact h_|(have e_:=(Kd.R_reads' Ja.out).1;omega)|simpa using h_);obtain rfl:=k38_openM hM10;have HP10:=Kd.R_seg HX10.out (x5_1:Int) (of_decide_eq_true Z27) (by have h_:(x5_1:Int) < ((x0_1.length:Int):Int):=of_decide_eq_true Z27;first|exact h_|(have e_:=(Kd.R_reads' Ja.out).1;omega)|simpa using h_) (seg:=[.int .i64 x1_1]) (j:=0) hcl10 hcc10 (show 1≤4 from by decide) (x':=(⟨x1_1,(⟨(rd_T38 x0_1 x5_1).f1.f0,(rd_T38 x0_1 x5_1).f1.f1,(rd_T38 x0_1 x5_1).f1.f2⟩:S36)⟩:S38)) (k38_mkM _ _ _ (⟨x1_1,(⟨(rd_T38 x0_1 x5_1).f1.f0,(rd_T38 x0_1 x5_1).f1.f1,(rd_T38 x0_1 x5_1).f1.f2⟩:S36)⟩:S38) ) (fun _ hk=>hk);have hx10_0:=hcc10 0 _ rfl;(try simp only [show (k38).sz=4 from rfl,Nat.mul_one,Nat.add_zero] at hx10_0);have hf10_0:=hfr10 0;(try simp only [show (k38).sz=4 from rfl,Nat.mul_one,Nat.add_zero] at hf10_0);clear hcl10 hcc10 hfr10 hM10
     go_wp2_with (first|((with_reducible refine gate_store (t:=3) (p:=16) rfl ?_);refine store_event (t:=3) (p:=16) (v:=?vo_w11) (w1:=(wr.setCell ⟨go5,(x5_1:Int).toNat * 4,none⟩ (.int .i64 x1_1))) ?hg ?ho ?hn ?hr ?_;(case ho=>rfl);(case hg=>rfl);(case hn=>rfl);(case hr=>first|(go_simp;done)|(go_simp;rfl));intro w11 hw;have hg:wr.grownBy w11 (some go5):=(by rw [hw];exact HP10.2);have hp_:Kd.R k38 38 w11 w0.heap.size (fun k_=>(P0_ k_ ∨ w.heap.size≤k_)) (.slice (some ⟨go5,0,none⟩) x0_1.length Ka) y311:=(by rw [hw,Ny311.out];exact HP10.1);clear HP10;have n_:=an_ (hp_)<|an_ ((by rw [hw];exact below_set (HB.out) GB5.out:Below w0.heap.size w0 w11))<|Aside0.mk (Kept.of_grown (S:=(fun k_=>P0_ k_)) hg Z23 (fun k_ e_=>(Ja.out.1 k_ e_)));clear Ja HB HK;obtain ⟨Ja,HB,HK⟩:=n_;clear hg hw hp_;have p6:0≤(x5_1:Int):=of_decide_eq_true Z27;have q6:(x5_1:Int) < ((x0_1.length:Int):Int):=of_decide_eq_true Z27;obtain ⟨ce6,hcl6,hM6,hcc6,hfr6⟩:=Kd.R_elem Ja.out z38 (x5_1:Int) p6 q6;obtain rfl:=k38_openM hM6;have hx6_0:w11.cell? ⟨go5,(x5_1:Int).toNat * 4,none⟩=some (.int .i64 ((rd_T38 y311 x5_1).f0)):=hcc6 0 _ rfl;have hx6_1:w11.cell? ⟨go5,(x5_1:Int).toNat * 4 + 1,none⟩=some (.int .i64 ((rd_T38 y311 x5_1).f1.f0)):=hcc6 1 _ rfl;have hx6_2:w11.cell? ⟨go5,(x5_1:Int).toNat * 4 + 2,none⟩=some (.int .i64 ((rd_T38 y311 x5_1).f1.f1)):=hcc6 2 _ rfl;have hx6_3:w11.cell? ⟨go5,(x5_1:Int).toNat * 4 + 3,none⟩=some (.int .i64 ((rd_T38 y311 x5_1).f1.f2)):=hcc6 3 _ rfl;have hf6_0:w11.frozen? ⟨go5,(x5_1:Int).toNat * 4,none⟩=false:=hfr6 0;have hf6_1:w11.frozen? ⟨go5,(x5_1:Int).toNat * 4 + 1,none⟩=false:=hfr6 1;have hf6_2:w11.frozen? ⟨go5,(x5_1:Int).toNat * 4 + 2,none⟩=false:=hfr6 2;have hf6_3:w11.frozen? ⟨go5,(x5_1:Int).toNat * 4 + 3,none⟩=false:=hfr6 3;clear hcl6 hcc6 hfr6 hM6;replace p6:=eq_true p6;replace q6:=eq_true q6;have HX12:=Aside0.mk (show Kd.R k38 38 w11 w0.heap.size (fun k_=>(P0_ k_ ∨ w.heap.size≤k_)) (.slice (some ⟨go5,0,none⟩) x0_1.length Ka) y311 from (pR_ Ja.out));obtain ⟨ce12,hcl12,hM12,hcc12,hfr12⟩:=Kd.R_elem HX12.out z38 (x5_1:Int) (of_decide_eq_true Z27) (by have h_:(x5_1:Int) < ((x0_1.length:Int):Int):=of_decide_eq_true Z27;first|exact h_|(have e_:=(Kd.R_reads' Ja.out).1;omega)|simpa using h_);obtain rfl:=k38_openM hM12;have HP12:=Kd.R_seg HX12.out (x5_1:Int) (of_decide_eq_true Z27) (by have h_:(x5_1:Int) < ((x0_1.length:Int):Int):=of_decide_eq_true Z27;first|exact h_|(have e_:=(Kd.R_reads' Ja.out).1;omega)|simpa using h_) (seg:=[.int .i64 (wrap64 (x1_1 + 1))]) (j:=1) hcl12 hcc12 (show 2≤4 from by decide) (x':=(⟨(rd_T38 y311 x5_1).f0,(⟨wrap64 (x1_1 + 1),(rd_T38 y311 x5_1).f1.f1,(rd_T38 y311 x5_1).f1.f2⟩:S36)⟩:S38)) (k38_mkM _ _ _ (⟨(rd_T38 y311 x5_1).f0,(⟨wrap64 (x1_1 + 1),(rd_T38 y311 x5_1).f1.f1,(rd_T38 y311 x5_1).f1.f2⟩:S36)⟩:S38) ) (fun _ hk=>hk);have hx12_1:=hcc12 1 _ rfl;(try simp only [show (k38).sz=4 from rfl,Nat.mul_one,Nat.add_zero] at hx12_1);have hf12_1:=hfr12 1;(try simp only [show (k38).sz=4 from rfl,Nat.mul_one,Nat.add_zero] at hf12_1);clear hcl12 hcc12 hfr12 hM12)|((with_reducible refine gate_store (t:=3) (p:=24) rfl ?_);refine store_event (t:=3) (p:=24) (v:=?vo_w13) (w1:=(w11.setCell ⟨go5,(x5_1:Int).toNat * 4 + 1,none⟩ (.int .i64 (wrap64 (x1_1 + 1))))) ?hg ?ho ?hn ?hr ?_;(case ho=>rfl);(case hg=>rfl);(case hn=>rfl);(case hr=>first|(go_simp;done)|(go_simp;rfl));intro w13 hw;have hg:w11.grownBy w13 (some go5):=(by rw [hw];exact HP12.2);have hp_:Kd.R k38 38 w13 w0.heap.size (fun k_=>(P0_ k_ ∨ w.heap.size≤k_)) (.slice (some ⟨go5,0,none⟩) x0_1.length Ka) y312:=(by rw [hw,Ny312.out];exact HP12.1);clear HP12;have n_:=an_ (hp_)<|an_ ((by rw [hw];exact below_set (HB.out) GB5.out:Below w0.heap.size w0 w13))<|Aside0.mk (Kept.of_grown (S:=(fun k_=>P0_ k_)) hg Z23 (fun k_ e_=>(Ja.out.1 k_ e_)));clear Ja HB HK;obtain ⟨Ja,HB,HK⟩:=n_;clear hg hw hp_;have p7:0≤(x5_1:Int):=of_decide_eq_true Z27;have q7:(x5_1:Int) < ((x0_1.length:Int):Int):=of_decide_eq_true Z27;obtain ⟨ce7,hcl7,hM7,hcc7,hfr7⟩:=Kd.R_elem Ja.out z38 (x5_1:Int) p7 q7;obtain rfl:=k38_openM hM7;have hx7_0:w13.cell? ⟨go5,(x5_1:Int).toNat * 4,none⟩=some (.int .i64 ((rd_T38 y312 x5_1).f0)):=hcc7 0 _ rfl;have hx7_1:w13.cell? ⟨go5,(x5_1:Int).toNat * 4 + 1,none⟩=some (.int .i64 ((rd_T38 y312 x5_1).f1.f0)):=hcc7 1 _ rfl;have hx7_2:w13.cell? ⟨go5,(x5_1:Int).toNat * 4 + 2,none⟩=some (.int .i64 ((rd_T38 y312 x5_1).f1.f1)):=hcc7 2 _ rfl;have hx7_3:w13.cell? ⟨go5,(x5_1:Int).toNat * 4 + 3,none⟩=some (.int .i64 ((rd_T38 y312 x5_1).f1.f2)):=hcc7 3 _ rfl;have hf7_0:w13.frozen? ⟨go5,(x5_1:Int).toNat * 4,none⟩=false:=hfr7 0;have hf7_1:w13.frozen? ⟨go5,(x5_1:Int).toNat * 4 + 1,none⟩=false:=hfr7 1;have hf7_2:w13.frozen? ⟨go5,(x5_1:Int).toNat * 4 + 2,none⟩=false:=hfr7 2;have hf7_3:w13.frozen? ⟨go5,(x5_1:Int).toNat * 4 + 3,none⟩=false:=hfr7 3;clear hcl7 hcc7 hfr7 hM7;replace p7:=eq_true p7;replace q7:=eq_true q7;have HX14:=Aside0.mk (show Kd.R k38 38 w13 w0.heap.size (fun k_=>(P0_ k_ ∨ w.heap.size≤k_)) (.slice (some ⟨go5,0,none⟩) x0_1.length Ka) y312 from (pR_ Ja.out));obtain ⟨ce14,hcl14,hM14,hcc14,hfr14⟩:=Kd.R_elem HX14.out z38 (x5_1:Int) (of_decide_eq_true Z27) (by have h_:(x5_1:Int) < ((x0_1.length:Int):Int):=of_decide_eq_true Z27;first|exact h_|(have e_:=(Kd.R_reads' Ja.out).1;omega)|simpa using h_);obtain rfl:=k38_openM hM14;have HP14:=Kd.R_seg HX14.out (x5_1:Int) (of_decide_eq_true Z27) (by have h_:(x5_1:Int) < ((x0_1.length:Int):Int):=of_decide_eq_true Z27;first|exact h_|(have e_:=(Kd.R_reads' Ja.out).1;omega)|simpa using h_) (seg:=[.int .i64 (wrap64 ((wrap64 (x1_1 + 1)) + 1))]) (j:=2) hcl14 hcc14 (show 3≤4 from by decide) (x':=(⟨(rd_T38 y312 x5_1).f0,(⟨(rd_T38 y312 x5_1).f1.f0,wrap64 ((wrap64 (x1_1 + 1)) + 1),(rd_T38 y312 x5_1).f1.f2⟩:S36)⟩:S38)) (k38_mkM _ _ _ (⟨(rd_T38 y312 x5_1).f0,(⟨(rd_T38 y312 x5_1).f1.f0,wrap64 ((wrap64 (x1_1 + 1)) + 1),(rd_T38 y312 x5_1).f1.f2⟩:S36)⟩:S38) ) (fun _ hk=>hk);have hx14_2:=hcc14 2 _ rfl;(try simp only [show (k38).sz=4 from rfl,Nat.mul_one,Nat.add_zero] at hx14_2);have hf14_2:=hfr14 2;(try simp only [show (k38).sz=4 from rfl,Nat.mul_one,Nat.add_zero] at hf14_2);clear hcl14 hcc14 hfr14 hM14)|((with_reducible refine gate_store (t:=3) (p:=32) rfl ?_);refine store_event (t:=3) (p:=32) (v:=?vo_w15) (w1:=(w13.setCell ⟨go5,(x5_1:Int).toNat * 4 + 2,none⟩ (.int .i64 (wrap64 ((wrap64 (x1_1 + 1)) + 1))))) ?hg ?ho ?hn ?hr ?_;(case ho=>rfl);(case hg=>rfl);(case hn=>rfl);(case hr=>first|(go_simp;done)|(go_simp;rfl));intro w15 hw;have hg:w13.grownBy w15 (some go5):=(by rw [hw];exact HP14.2);have hp_:Kd.R k38 38 w15 w0.heap.size (fun k_=>(P0_ k_ ∨ w.heap.size≤k_)) (.slice (some ⟨go5,0,none⟩) x0_1.length Ka) y313:=(by rw [hw,Ny313.out];exact HP14.1);clear HP14;have n_:=an_ (hp_)<|an_ ((by rw [hw];exact below_set (HB.out) GB5.out:Below w0.heap.size w0 w15))<|Aside0.mk (Kept.of_grown (S:=(fun k_=>P0_ k_)) hg Z23 (fun k_ e_=>(Ja.out.1 k_ e_)));clear Ja HB HK;obtain ⟨Ja,HB,HK⟩:=n_;clear hg hw hp_;have p8:0≤(x5_1:Int):=of_decide_eq_true Z27;have q8:(x5_1:Int) < ((x0_1.length:Int):Int):=of_decide_eq_true Z27;obtain ⟨ce8,hcl8,hM8,hcc8,hfr8⟩:=Kd.R_elem Ja.out z38 (x5_1:Int) p8 q8;obtain rfl:=k38_openM hM8;have hx8_0:w15.cell? ⟨go5,(x5_1:Int).toNat * 4,none⟩=some (.int .i64 ((rd_T38 y313 x5_1).f0)):=hcc8 0 _ rfl;have hx8_1:w15.cell? ⟨go5,(x5_1:Int).toNat * 4 + 1,none⟩=some (.int .i64 ((rd_T38 y313 x5_1).f1.f0)):=hcc8 1 _ rfl;have hx8_2:w15.cell? ⟨go5,(x5_1:Int).toNat * 4 + 2,none⟩=some (.int .i64 ((rd_T38 y313 x5_1).f1.f1)):=hcc8 2 _ rfl;have hx8_3:w15.cell? ⟨go5,(x5_1:Int).toNat * 4 + 3,none⟩=some (.int .i64 ((rd_T38 y313 x5_1).f1.f2)):=hcc8 3 _ rfl;have hf8_0:w15.frozen? ⟨go5,(x5_1:Int).toNat * 4,none⟩=false:=hfr8 0;have hf8_1:w15.frozen? ⟨go5,(x5_1:Int).toNat * 4 + 1,none⟩=false:=hfr8 1;have hf8_2:w15.frozen? ⟨go5,(x5_1:Int).toNat * 4 + 2,none⟩=false:=hfr8 2;have hf8_3:w15.frozen? ⟨go5,(x5_1:Int).toNat * 4 + 3,none⟩=false:=hfr8 3;clear hcl8 hcc8 hfr8 hM8;replace p8:=eq_true p8;replace q8:=eq_true q8;have HX16:=Aside0.mk (show Kd.R k38 38 w15 w0.heap.size (fun k_=>(P0_ k_ ∨ w.heap.size≤k_)) (.slice (some ⟨go5,0,none⟩) x0_1.length Ka) y313 from (pR_ Ja.out));obtain ⟨ce16,hcl16,hM16,hcc16,hfr16⟩:=Kd.R_elem HX16.out z38 (x5_1:Int) (of_decide_eq_true Z27) (by have h_:(x5_1:Int) < ((x0_1.length:Int):Int):=of_decide_eq_true Z27;first|exact h_|(have e_:=(Kd.R_reads' Ja.out).1;omega)|simpa using h_);obtain rfl:=k38_openM hM16;have HP16:=Kd.R_seg HX16.out (x5_1:Int) (of_decide_eq_true Z27) (by have h_:(x5_1:Int) < ((x0_1.length:Int):Int):=of_decide_eq_true Z27;first|exact h_|(have e_:=(Kd.R_reads' Ja.out).1;omega)|simpa using h_) (seg:=[.int .i64 (wrap64 ((wrap64 ((wrap64 (x1_1 + 1)) + 1)) + 1))]) (j:=3) hcl16 hcc16 (show 4≤4 from by decide) (x':=(⟨(rd_T38 y313 x5_1).f0,(⟨(rd_T38 y313 x5_1).f1.f0,(rd_T38 y313 x5_1).f1.f1,wrap64 ((wrap64 ((wrap64 (x1_1 + 1)) + 1)) + 1)⟩:S36)⟩:S38)) (k38_mkM _ _ _ (⟨(rd_T38 y313 x5_1).f0,(⟨(rd_T38 y313 x5_1).f1.f0,(rd_T38 y313 x5_1).f1.f1,wrap64 ((wrap64 ((wrap64 (x1_1 + 1)) + 1)) + 1)⟩:S36)⟩:S38) ) (fun _ hk=>hk);have hx16_3:=hcc16 3 _ rfl;(try simp only [show (k38).sz=4 from rfl,Nat.mul_one,Nat.add_zero] at hx16_3);have hf16_3:=hfr16 3;(try simp only [show (k38).sz=4 from rfl,Nat.mul_one,Nat.add_zero] at hf16_3);clear hcl16 hcc16 hfr16 hM16)|((with_reducible refine gate_store (t:=3) (p:=40) rfl ?_);refine store_event (t:=3) (p:=40) (v:=?vo_w17) (w1:=(w15.setCell ⟨go5,(x5_1:Int).toNat * 4 + 3,none⟩ (.int .i64 (wrap64 ((wrap64 ((wrap64 (x1_1 + 1)) + 1)) + 1))))) ?hg ?ho ?hn ?hr ?_;(case ho=>rfl);(case hg=>rfl);(case hn=>rfl);(case hr=>first|(go_simp;done)|(go_simp;rfl));intro w17 hw;have hg:w15.grownBy w17 (some go5):=(by rw [hw];exact HP16.2);have hp_:Kd.R k38 38 w17 w0.heap.size (fun k_=>(P0_ k_ ∨ w.heap.size≤k_)) (.slice (some ⟨go5,0,none⟩) x0_1.length Ka) y314:=(by rw [hw,Ny314.out];exact HP16.1);clear HP16;have n_:=an_ (hp_)<|an_ ((by rw [hw];exact below_set (HB.out) GB5.out:Below w0.heap.size w0 w17))<|Aside0.mk (Kept.of_grown (S:=(fun k_=>P0_ k_)) hg Z23 (fun k_ e_=>(Ja.out.1 k_ e_)));clear Ja HB HK;obtain ⟨Ja,HB,HK⟩:=n_;clear hg hw hp_))
     go_roundg k1
     case measure => have := HK1.out; omega
     case rel=>exact ⟨(y314),(wrap64 ((wrap64 ((wrap64 ((wrap64 (x1_1 + 1)) + 1)) + 1)) + 1)),(wrap64 (x5_1 + 1)),Z28,Z28,H',⟨by have:=HK1.out;omega⟩,⟨pR_ Ja.out⟩,⟨by repeat (first|(with_reducible first|exact HK.out|apply Kept.alloc|apply Kept.drewN|apply Kept.drew)|exact HK.out)⟩,⟨pB_ HB.out⟩⟩
    ·rw [if_neg c4] at H
     exact absurd H (by simp)
   ·rw [if_neg c3] at H
    have c3b0:decide (x5_1 < (x0_1.length:Int))=false:=decide_eq_false c3;clear c3;simp only [Option.some.injEq,Prod.mk.injEq] at H;obtain ⟨rfl,rfl⟩:=H;obtain ⟨Jb,Kb,eo18⟩:=Kd.R_slice Ja.out;subst eo18
    go_wp2
    go_ret;exact ⟨by first|rfl|(simp [errW_none,errW_some] <;> rfl)|(simp [*,errW_none,errW_some] <;> rfl),by (with_reducible repeat (first|apply Kd.R_alloc|apply Kd.R_drewN|apply Kd.R_drew));exact Ja.out,by repeat (first|(with_reducible first|exact HB.out|apply below_alloc|apply pw_below_drewN|apply below_drew1)|exact HB.out),by repeat (first|(with_reducible first|exact HK.out|apply Kept.alloc|apply Kept.drewN|apply Kept.drew)|exact HK.out)⟩

/-! ### laws_markLine: function 10 -/
def laws_markLine.f (k : Nat) (a0_0 : Int) (l0_1 : List (S38)) (l0_2 : List (S38)) (l0_3 : List (S38)) (a1 : Int) : Option (Int × (List (S38)) × (List (S38)) × (List (S38))) := (laws_markJobS.f k l0_1 a1).bind fun bt316 => ((laws_markJobS.f k l0_2 bt316.1).bind fun bt318 => ((laws_markJobS.f k l0_3 bt318.1).bind fun bt320 => (some (bt320.1, bt316.2, bt318.2, bt320.2))))
set_option maxHeartbeats 8000000 in
set_option maxRecDepth 100000 in
theorem laws_markLine.calls (k : Nat) (a0_0 : Int) (P0_1_ : Nat → Prop) (u9000_ : Value) (l0_1 : List (S38)) (P0_2_ : Nat → Prop) (u9001_ : Value) (l0_2 : List (S38)) (P0_3_ : Nat → Prop) (u9002_ : Value) (l0_3 : List (S38)) (a1 : Int) (r1 : Int) (r2 : List (S38)) (r3 : List (S38)) (r4 : List (S38)) (w0 w : World) (hB : Below w0.heap.size w0 w) (ho0_1 : Kd.R k38 38 w w0.heap.size P0_1_ u9000_ l0_1) (hp0_1_0_2 : ∀ k_, P0_1_ k_ → ¬ P0_2_ k_) (hp0_1_0_3 : ∀ k_, P0_1_ k_ → ¬ P0_3_ k_) (ho0_2 : Kd.R k38 38 w w0.heap.size P0_2_ u9001_ l0_2) (hp0_2_0_1 : ∀ k_, P0_2_ k_ → ¬ P0_1_ k_) (hp0_2_0_3 : ∀ k_, P0_2_ k_ → ¬ P0_3_ k_) (ho0_3 : Kd.R k38 38 w w0.heap.size P0_3_ u9002_ l0_3) (hp0_3_0_1 : ∀ k_, P0_3_ k_ → ¬ P0_1_ k_) (hp0_3_0_2 : ∀ k_, P0_3_ k_ → ¬ P0_2_ k_) (h : laws_markLine.f k a0_0 l0_1 l0_2 l0_3 a1 = some (r1, r2, r3, r4)) :
  Calls Try.prog 10 #[.agg #[.int .i64 a0_0,u9000_,u9001_,u9002_],.int .i64 a1] w fun e w'=>e=.returned (.int .i64 r1)∧Kd.R k38 38 w' w0.heap.size (fun k_=>((P0_1_ k_ ∨ P0_2_ k_ ∨ P0_3_ k_) ∨ w.heap.size≤k_)) u9000_ r2∧Kd.R k38 38 w' w0.heap.size (fun k_=>((P0_1_ k_ ∨ P0_2_ k_ ∨ P0_3_ k_) ∨ w.heap.size≤k_)) u9001_ r3∧Kd.R k38 38 w' w0.heap.size (fun k_=>((P0_1_ k_ ∨ P0_2_ k_ ∨ P0_3_ k_) ∨ w.heap.size≤k_)) u9002_ r4∧Below w0.heap.size w0 w'∧Kept w w' (fun k_=>P0_1_ k_ ∨ P0_2_ k_ ∨ P0_3_ k_):=by
 have hu32 := Try.underlying32
 have HO0_1:=Aside0.mk (show Kd.R k38 38 w w0.heap.size (fun k_=>((P0_1_ k_ ∨ P0_2_ k_ ∨ P0_3_ k_) ∨ w.heap.size≤k_)∧some k_≠(u9001_:Value).ownBlock∧some k_≠(u9002_:Value).ownBlock) u9000_ l0_1 from Kd.R_mono ho0_1 (fun k_ hk=>⟨(.inl (.inl hk)),fun e_=>hp0_1_0_2 k_ hk (ho0_2.1 k_ e_.symm),fun e_=>hp0_1_0_3 k_ hk (ho0_3.1 k_ e_.symm)⟩))
 have HO0_2:=Aside0.mk (show Kd.R k38 38 w w0.heap.size (fun k_=>((P0_1_ k_ ∨ P0_2_ k_ ∨ P0_3_ k_) ∨ w.heap.size≤k_)∧some k_≠(u9000_:Value).ownBlock∧some k_≠(u9002_:Value).ownBlock) u9001_ l0_2 from Kd.R_mono ho0_2 (fun k_ hk=>⟨(.inl (.inr (.inl hk))),fun e_=>hp0_2_0_1 k_ hk (ho0_1.1 k_ e_.symm),fun e_=>hp0_2_0_3 k_ hk (ho0_3.1 k_ e_.symm)⟩))
 have HO0_3:=Aside0.mk (show Kd.R k38 38 w w0.heap.size (fun k_=>((P0_1_ k_ ∨ P0_2_ k_ ∨ P0_3_ k_) ∨ w.heap.size≤k_)∧some k_≠(u9000_:Value).ownBlock∧some k_≠(u9001_:Value).ownBlock) u9002_ l0_3 from Kd.R_mono ho0_3 (fun k_ hk=>⟨(.inl (.inr (.inr hk))),fun e_=>hp0_3_0_1 k_ hk (ho0_1.1 k_ e_.symm),fun e_=>hp0_3_0_2 k_ hk (ho0_2.1 k_ e_.symm)⟩))
 have HK := Aside0.mk (Kept.refl w (fun k_ => P0_1_ k_ ∨ P0_2_ k_ ∨ P0_3_ k_))
 have HW0 := Aside0.mk hB.size
 have HB := Aside0.mk hB
 clear hB
 have H:((laws_markJobS.f k l0_1 a1).bind fun bt316=>((laws_markJobS.f k l0_2 bt316.1).bind fun bt318=>((laws_markJobS.f k l0_3 bt318.1).bind fun bt320=>(some (bt320.1,bt316.2,bt318.2,bt320.2)))))=some (r1,r2,r3,r4):=h
 clear h
 obtain ⟨⟨t316, t317⟩, A30, H⟩ := Option.bind_eq_some_iff.mp H
 (try dsimp only at H)
 have A3 := Aside0.mk A30
 clear A30
 obtain ⟨⟨t318, t319⟩, A40, H⟩ := Option.bind_eq_some_iff.mp H
 (try dsimp only at H)
 have A4 := Aside0.mk A40
 clear A40
 obtain ⟨⟨t320, t321⟩, A50, H⟩ := Option.bind_eq_some_iff.mp H
 (try dsimp only at H)
 have A5 := Aside0.mk A50
 clear A50
 simp only [Option.some.injEq, Prod.mk.injEq] at H
 obtain ⟨rfl, rfl, rfl, rfl⟩ := H
 obtain ⟨Ao6, co6, eo6⟩ := Kd.R_slice HO0_1.out
 subst eo6
 obtain ⟨Ao7, co7, eo7⟩ := Kd.R_slice HO0_2.out
 subst eo7
 obtain ⟨Ao8, co8, eo8⟩ := Kd.R_slice HO0_3.out
 subst eo8
 go_enter Try.func10, Try.ntmps10
 go_wp2_with (first|((with_reducible refine gate_dst (N:=2) rfl ?_);refine box_event ?hg (N:=2) ?hd (cs:=#[.int .i64 a0_0,.slice Ao6 l0_1.length co6,.slice Ao7 l0_2.length co7,.slice Ao8 l0_3.length co8]) (t:=32) ?hr ?_;(case hd=>rfl);(case hg=>rfl);(case hr=>first|(go_simp;done)|(go_simp;rfl));intro gb315 hg w9 hbox hb;have n_:=an_ (Kd.R_below (pR_ HO0_1.out) hb)<|an_ (Kd.R_below (pR_ HO0_2.out) hb)<|an_ (Kd.R_below (pR_ HO0_3.out) hb)<|an_ (Kept.below (S:=(fun k_=>P0_1_ k_ ∨ P0_2_ k_ ∨ P0_3_ k_)) Z23 hb)<|an_ (below_step (pB_ HB.out) hb)<|an_ (hbox)<|an_ ((by rw [hg];exact (by first|exact HK.out.1|exact (show Kept w _ (fun k_=>P0_1_ k_ ∨ P0_2_ k_ ∨ P0_3_ k_) from by repeat (first|(with_reducible first|exact HK.out|apply Kept.alloc|apply Kept.drewN|apply Kept.drew)|exact HK.out)).1):w.heap.size≤gb315))<|Aside0.mk ((by rw [hg];exact (below_size (pB_ HB.out)):w0.heap.size≤gb315));clear HO0_1 HO0_2 HO0_3 HK HB;obtain ⟨HO0_1,HO0_2,HO0_3,HK,HB,BK315,GW315,GE315⟩:=n_;clear hb hbox hg;have hcz10_0:w9.cell? ⟨gb315,0,none⟩=some (.int .i64 a0_0):=(blk_cell BK315.out 0).trans rfl;have hcz10_1:w9.cell? ⟨gb315,1,none⟩=some (.slice Ao6 l0_1.length co6):=(blk_cell BK315.out 1).trans rfl;have hcz10_2:w9.cell? ⟨gb315,2,none⟩=some (.slice Ao7 l0_2.length co7):=(blk_cell BK315.out 2).trans rfl;have hcz10_3:w9.cell? ⟨gb315,3,none⟩=some (.slice Ao8 l0_3.length co8):=(blk_cell BK315.out 3).trans rfl;have hfz10_0:=blk_frozen BK315.out 0;have hfz10_1:=blk_frozen BK315.out 1;have hfz10_2:=blk_frozen BK315.out 2;have hfz10_3:=blk_frozen BK315.out 3)|((with_reducible refine gate_callee (f:=27) rfl ?_);refine goesL_ (some 8) rfl rfl Try.func27 (by kernel_rfl) rfl #[.slice Ao6 l0_1.length co6,.int .i64 a1] rfl Z22 ?_;(with_reducible refine (laws_markJobS.calls k (fun k_=>some k_=(.slice Ao6 l0_1.length co6:Value).ownBlock) (.slice Ao6 l0_1.length co6) l0_1 a1 t316 t317 w0 _ ?side1 ?side2 A3.out).mono ?_);(case side1=>repeat (first|(with_reducible first|exact HB.out|apply below_alloc|apply pw_below_drewN|apply below_drew1|refine below_set ?_ GE315.out)|exact HB.out));(case side2=>exact Kd.R_tight rfl HO0_1.out);rintro e w11 ⟨rfl,hy0,hb,hkp⟩;refine ⟨_,rfl,?_⟩;have n_:=an_ (Kd.R_reok rfl hy0 (fun k_ e_=>HO0_1.out.1 k_ e_))<|an_ (Kd.R_mono (ok':=fun k_=>((P0_1_ k_ ∨ P0_2_ k_ ∨ P0_3_ k_) ∨ w.heap.size≤k_)∧some k_≠(.slice Ao6 l0_1.length co6:Value).ownBlock∧some k_≠(.slice Ao8 l0_3.length co8:Value).ownBlock) (Kd.R_keptB (HO0_2.out) hkp (fun k_ hk_ hs_=>(hk_.2.1) hs_)) (fun k_ hk_=>⟨hk_.1.1,hk_.1.2.1,hk_.1.2.2⟩))<|an_ (Kd.R_mono (ok':=fun k_=>((P0_1_ k_ ∨ P0_2_ k_ ∨ P0_3_ k_) ∨ w.heap.size≤k_)∧some k_≠(.slice Ao6 l0_1.length co6:Value).ownBlock∧some k_≠(.slice Ao7 l0_2.length co7:Value).ownBlock) (Kd.R_keptB (HO0_3.out) hkp (fun k_ hk_ hs_=>(hk_.2.1) hs_)) (fun k_ hk_=>⟨hk_.1.1,hk_.1.2.1,hk_.1.2.2⟩))<|an_ (blk_kept (pk_ BK315.out) hkp (fun hs_=>(fun e_=>(Kd.R_ne HO0_1.out BK315.out (by decide)) e_) hs_))<|an_ (Kept.then_ (S:=(fun k_=>P0_1_ k_ ∨ P0_2_ k_ ∨ P0_3_ k_)) Z21 hkp (fun k_ hs_=>(fun e_=>(HO0_1.out.1 k_ e_.symm).1) hs_))<|Aside0.mk (hb);clear HO0_1 HO0_2 HO0_3 BK315 HK HB;obtain ⟨HO0_1,HO0_2,HO0_3,BK315,HK,HB⟩:=n_;(try clear hb);(try clear hkp);(try clear hy0);have hcz12_0:w11.cell? ⟨gb315,0,none⟩=some (.int .i64 a0_0):=(blk_cell BK315.out 0).trans rfl;have hcz12_1:w11.cell? ⟨gb315,1,none⟩=some (.slice Ao6 l0_1.length co6):=(blk_cell BK315.out 1).trans rfl;have hcz12_2:w11.cell? ⟨gb315,2,none⟩=some (.slice Ao7 l0_2.length co7):=(blk_cell BK315.out 2).trans rfl;have hcz12_3:w11.cell? ⟨gb315,3,none⟩=some (.slice Ao8 l0_3.length co8):=(blk_cell BK315.out 3).trans rfl;have hfz12_0:=blk_frozen BK315.out 0;have hfz12_1:=blk_frozen BK315.out 1;have hfz12_2:=blk_frozen BK315.out 2;have hfz12_3:=blk_frozen BK315.out 3)|((with_reducible refine gate_callee (f:=27) rfl ?_);refine goesL_ (some 12) rfl rfl Try.func27 (by kernel_rfl) rfl #[.slice Ao7 l0_2.length co7,.int .i64 t316] rfl Z22 ?_;(with_reducible refine (laws_markJobS.calls k (fun k_=>some k_=(.slice Ao7 l0_2.length co7:Value).ownBlock) (.slice Ao7 l0_2.length co7) l0_2 t316 t318 t319 w0 _ ?side1 ?side2 A4.out).mono ?_);(case side1=>repeat (first|(with_reducible first|exact HB.out|apply below_alloc|apply pw_below_drewN|apply below_drew1|refine below_set ?_ GE315.out)|exact HB.out));(case side2=>exact Kd.R_tight rfl HO0_2.out);rintro e w13 ⟨rfl,hy0,hb,hkp⟩;refine ⟨_,rfl,?_⟩;have n_:=an_ (Kd.R_mono (ok':=fun k_=>((P0_1_ k_ ∨ P0_2_ k_ ∨ P0_3_ k_) ∨ w.heap.size≤k_)∧some k_≠(.slice Ao7 l0_2.length co7:Value).ownBlock∧some k_≠(.slice Ao8 l0_3.length co8:Value).ownBlock) (Kd.R_keptB (HO0_1.out) hkp (fun k_ hk_ hs_=>(hk_.2.1) hs_)) (fun k_ hk_=>⟨hk_.1.1,hk_.1.2.1,hk_.1.2.2⟩))<|an_ (Kd.R_reok rfl hy0 (fun k_ e_=>HO0_2.out.1 k_ e_))<|an_ (Kd.R_mono (ok':=fun k_=>((P0_1_ k_ ∨ P0_2_ k_ ∨ P0_3_ k_) ∨ w.heap.size≤k_)∧some k_≠(.slice Ao6 l0_1.length co6:Value).ownBlock∧some k_≠(.slice Ao7 l0_2.length co7:Value).ownBlock) (Kd.R_keptB (HO0_3.out) hkp (fun k_ hk_ hs_=>(hk_.2.2) hs_)) (fun k_ hk_=>⟨hk_.1.1,hk_.1.2.1,hk_.1.2.2⟩))<|an_ (blk_kept (pk_ BK315.out) hkp (fun hs_=>(fun e_=>(Kd.R_ne HO0_2.out BK315.out (by decide)) e_) hs_))<|an_ (Kept.then_ (S:=(fun k_=>P0_1_ k_ ∨ P0_2_ k_ ∨ P0_3_ k_)) Z21 hkp (fun k_ hs_=>(fun e_=>(HO0_2.out.1 k_ e_.symm).1) hs_))<|Aside0.mk (hb);clear HO0_1 HO0_2 HO0_3 BK315 HK HB;obtain ⟨HO0_1,HO0_2,HO0_3,BK315,HK,HB⟩:=n_;(try clear hb);(try clear hkp);(try clear hy0);have hcz14_0:w13.cell? ⟨gb315,0,none⟩=some (.int .i64 a0_0):=(blk_cell BK315.out 0).trans rfl;have hcz14_1:w13.cell? ⟨gb315,1,none⟩=some (.slice Ao6 l0_1.length co6):=(blk_cell BK315.out 1).trans rfl;have hcz14_2:w13.cell? ⟨gb315,2,none⟩=some (.slice Ao7 l0_2.length co7):=(blk_cell BK315.out 2).trans rfl;have hcz14_3:w13.cell? ⟨gb315,3,none⟩=some (.slice Ao8 l0_3.length co8):=(blk_cell BK315.out 3).trans rfl;have hfz14_0:=blk_frozen BK315.out 0;have hfz14_1:=blk_frozen BK315.out 1;have hfz14_2:=blk_frozen BK315.out 2;have hfz14_3:=blk_frozen BK315.out 3)|((with_reducible refine gate_callee (f:=27) rfl ?_);refine goesL_ (some 16) rfl rfl Try.func27 (by kernel_rfl) rfl #[.slice Ao8 l0_3.length co8,.int .i64 t318] rfl Z22 ?_;(with_reducible refine (laws_markJobS.calls k (fun k_=>some k_=(.slice Ao8 l0_3.length co8:Value).ownBlock) (.slice Ao8 l0_3.length co8) l0_3 t318 t320 t321 w0 _ ?side1 ?side2 A5.out).mono ?_);(case side1=>repeat (first|(with_reducible first|exact HB.out|apply below_alloc|apply pw_below_drewN|apply below_drew1|refine below_set ?_ GE315.out)|exact HB.out));(case side2=>exact Kd.R_tight rfl HO0_3.out);rintro e w15 ⟨rfl,hy0,hb,hkp⟩;refine ⟨_,rfl,?_⟩;have n_:=an_ (Kd.R_mono (ok':=fun k_=>((P0_1_ k_ ∨ P0_2_ k_ ∨ P0_3_ k_) ∨ w.heap.size≤k_)∧some k_≠(.slice Ao7 l0_2.length co7:Value).ownBlock∧some k_≠(.slice Ao8 l0_3.length co8:Value).ownBlock) (Kd.R_keptB (HO0_1.out) hkp (fun k_ hk_ hs_=>(hk_.2.2) hs_)) (fun k_ hk_=>⟨hk_.1.1,hk_.1.2.1,hk_.1.2.2⟩))<|an_ (Kd.R_mono (ok':=fun k_=>((P0_1_ k_ ∨ P0_2_ k_ ∨ P0_3_ k_) ∨ w.heap.size≤k_)∧some k_≠(.slice Ao6 l0_1.length co6:Value).ownBlock∧some k_≠(.slice Ao8 l0_3.length co8:Value).ownBlock) (Kd.R_keptB (HO0_2.out) hkp (fun k_ hk_ hs_=>(hk_.2.2) hs_)) (fun k_ hk_=>⟨hk_.1.1,hk_.1.2.1,hk_.1.2.2⟩))<|an_ (Kd.R_reok rfl hy0 (fun k_ e_=>HO0_3.out.1 k_ e_))<|an_ (blk_kept (pk_ BK315.out) hkp (fun hs_=>(fun e_=>(Kd.R_ne HO0_3.out BK315.out (by decide)) e_) hs_))<|an_ (Kept.then_ (S:=(fun k_=>P0_1_ k_ ∨ P0_2_ k_ ∨ P0_3_ k_)) Z21 hkp (fun k_ hs_=>(fun e_=>(HO0_3.out.1 k_ e_.symm).1) hs_))<|Aside0.mk (hb);clear HO0_1 HO0_2 HO0_3 BK315 HK HB;obtain ⟨HO0_1,HO0_2,HO0_3,BK315,HK,HB⟩:=n_;(try clear hb);(try clear hkp);(try clear hy0)))
 go_ret
 exact ⟨by first|rfl|(simp [errW_none,errW_some] <;> rfl)|(simp [*,errW_none,errW_some] <;> rfl),by (with_reducible repeat (first|apply Kd.R_alloc|apply Kd.R_drewN|apply Kd.R_drew));exact Kd.R_mono HO0_1.out (fun _ hk=>hk.1),by (with_reducible repeat (first|apply Kd.R_alloc|apply Kd.R_drewN|apply Kd.R_drew));exact Kd.R_mono HO0_2.out (fun _ hk=>hk.1),by (with_reducible repeat (first|apply Kd.R_alloc|apply Kd.R_drewN|apply Kd.R_drew));exact Kd.R_mono HO0_3.out (fun _ hk=>hk.1),by repeat (first|(with_reducible first|exact HB.out|apply below_alloc|apply pw_below_drewN|apply below_drew1|refine below_set ?_ GE315.out)|exact HB.out),by repeat (first|(with_reducible first|exact HK.out|apply Kept.alloc|apply Kept.drewN|apply Kept.drew|refine Kept.setCell ?_ (.inr GW315.out) _)|exact HK.out)⟩

/-! ### laws_heldJobS: function 28 -/
def laws_heldJobS.l0 : Nat → List (S38) → Int → Int → Option (Int)
 | 0, _, _, _ => none
 | k + 1,x0,x1,x5=>if x5 < (x0.length:Int) then (if 0≤x5 then (if ((rd_T38 x0 x5).f0)=x1 then (if ((rd_T38 x0 x5).f1.f0)=(wrap64 (x1 + 1)) then (if ((rd_T38 x0 x5).f1.f1)=(wrap64 ((wrap64 (x1 + 1)) + 1)) then (if ((rd_T38 x0 x5).f1.f2)=(wrap64 ((wrap64 ((wrap64 (x1 + 1)) + 1)) + 1)) then (laws_heldJobS.l0 k x0 (wrap64 ((wrap64 ((wrap64 ((wrap64 (x1 + 1)) + 1)) + 1)) + 1)) (wrap64 (x5 + 1))) else (some (-1))) else (some (-1))) else (some (-1))) else (some (-1))) else (none)) else (some x1)
def laws_heldJobS.f (k : Nat) (l0 : List (S38)) (a1 : Int) : Option (Int) := laws_heldJobS.l0 k l0 a1 0
set_option maxHeartbeats 8000000 in
set_option maxRecDepth 100000 in
theorem laws_heldJobS.calls (k : Nat) (A0 : Option Addr) (c0 : Nat) (l0 : List (S38)) (a1 : Int) (r : Int) (w : World) (hr0 : Kd.C k38 w A0 l0.length l0) (hc0 : l0.length ≤ c0) (h : laws_heldJobS.f k l0 a1 = some r) :
  Calls Try.prog 28 #[.slice A0 l0.length c0, .int .i64 a1] w fun e w' => e = .returned (.int .i64 r) ∧ Drawn0 w w' := by
 have HR0 := Aside0.mk hr0
 have HC0 := Aside0.mk hc0
 clear hr0 hc0
 have H : (laws_heldJobS.l0 k l0 a1 0) = some r := h
 clear h
 have H' := Aside0.mk H
 clear H
 go_enter Try.func28, Try.ntmps28
 go_wp2
 go_loopg [1, 5] k (fun kq v1 v5 w' => ∃ (x1_1 : Int) (x5_1 : Int), v1 = .int .i64 x1_1 ∧ v5 = .int .i64 x5_1 ∧ Aside0 (laws_heldJobS.l0 kq l0 x1_1 x5_1 = some r) ∧ Aside0 (kq ≤ k) ∧ Drawn0 w w')
 case atStart => exact ⟨(a1), (0), Z28, Z28, H', ⟨Nat.le_refl _⟩, by repeat (first | exact Drawn0.refl _ | apply Drawn0.step)⟩
 case round =>
  clear H'
  try clear c2
  try clear p2
  obtain ⟨x1_1, x5_1, rfl, rfl, HA, HK1, ⟨m1, rfl⟩⟩ := hrel
  cases gk with
  | zero => exact absurd HA.out (by simp [laws_heldJobS.l0])
  | succ k1 =>
   have H := HA.out; clear HA; simp only [laws_heldJobS.l0] at H
   by_cases c3 : x5_1 < (l0.length : Int)
   ·rw [if_pos c3] at H
    have c3b0 : decide (x5_1 < (l0.length : Int)) = true := decide_eq_true c3; clear c3
    by_cases c4 : 0 ≤ x5_1
    ·rw [if_pos c4] at H
     have c4b0:decide (0≤x5_1)=true:=decide_eq_true c4;clear c4;have HU5:=Aside0.mk H;clear H;have p322:0≤(x5_1:Int):=of_decide_eq_true Z27;have q322:x5_1 < (l0.length:Int):=of_decide_eq_true Z27;obtain ⟨ad322,e322,hx322_0,hx322_1,hx322_2,hx322_3⟩:=at_T38 HR0.out x5_1 p322 q322;cases e322;replace p322:=eq_true p322;replace q322:=eq_true q322
     go_upto_if 18 with (fail)
     have H := HU5.out; clear HU5
     by_cases c6 : ((rd_T38 l0 x5_1).f0) = x1_1
     ·rw [if_pos c6] at H
      have c6b0:(((rd_T38 l0 x5_1).f0) == x1_1)=true:=beq_iff_eq.mpr c6;have c6b1:(((rd_T38 l0 x5_1).f0) != x1_1)=false:=bne_eq_false_iff_eq.mpr c6;clear c6;(first|rw [c6b0]|(simp only [i64_w,i32_w];rw [c6b0])|(have cz_:=c6b0;simp only [bne,gt_iff_lt,Int.natCast_pos] at cz_;first|rw [cz_]|(simp only [i64_w,i32_w];rw [cz_]))|skip);have HU7:=Aside0.mk H;clear H;have p323:0≤(x5_1:Int):=of_decide_eq_true Z27;have q323:x5_1 < (l0.length:Int):=of_decide_eq_true Z27;obtain ⟨ad323,e323,hx323_0,hx323_1,hx323_2,hx323_3⟩:=at_T38 HR0.out x5_1 p323 q323;obtain rfl:ad322=ad323:=(by injection e323);replace p323:=eq_true p323;replace q323:=eq_true q323
      go_upto_if 28 with (fail)
      have H := HU7.out; clear HU7
      by_cases c8 : ((rd_T38 l0 x5_1).f1.f0) = (wrap64 (x1_1 + 1))
      ·rw [if_pos c8] at H
       have c8b0:(((rd_T38 l0 x5_1).f1.f0) == (wrap64 (x1_1 + 1)))=true:=beq_iff_eq.mpr c8;have c8b1:(((rd_T38 l0 x5_1).f1.f0) != (wrap64 (x1_1 + 1)))=false:=bne_eq_false_iff_eq.mpr c8;clear c8;(first|rw [c8b0]|(simp only [i64_w,i32_w];rw [c8b0])|(have cz_:=c8b0;simp only [bne,gt_iff_lt,Int.natCast_pos] at cz_;first|rw [cz_]|(simp only [i64_w,i32_w];rw [cz_]))|skip);have HU9:=Aside0.mk H;clear H;have p324:0≤(x5_1:Int):=of_decide_eq_true Z27;have q324:x5_1 < (l0.length:Int):=of_decide_eq_true Z27;obtain ⟨ad324,e324,hx324_0,hx324_1,hx324_2,hx324_3⟩:=at_T38 HR0.out x5_1 p324 q324;obtain rfl:ad322=ad324:=(by injection e324);replace p324:=eq_true p324;replace q324:=eq_true q324
       go_upto_if 38 with (fail)
       have H := HU9.out; clear HU9
       by_cases c10 : ((rd_T38 l0 x5_1).f1.f1) = (wrap64 ((wrap64 (x1_1 + 1)) + 1))
       ·rw [if_pos c10] at H
        have c10b0:(((rd_T38 l0 x5_1).f1.f1) == (wrap64 ((wrap64 (x1_1 + 1)) + 1)))=true:=beq_iff_eq.mpr c10;have c10b1:(((rd_T38 l0 x5_1).f1.f1) != (wrap64 ((wrap64 (x1_1 + 1)) + 1)))=false:=bne_eq_false_iff_eq.mpr c10;clear c10;(first|rw [c10b0]|(simp only [i64_w,i32_w];rw [c10b0])|(have cz_:=c10b0;simp only [bne,gt_iff_lt,Int.natCast_pos] at cz_;first|rw [cz_]|(simp only [i64_w,i32_w];rw [cz_]))|skip);have HU11:=Aside0.mk H;clear H;have p325:0≤(x5_1:Int):=of_decide_eq_true Z27;have q325:x5_1 < (l0.length:Int):=of_decide_eq_true Z27;obtain ⟨ad325,e325,hx325_0,hx325_1,hx325_2,hx325_3⟩:=at_T38 HR0.out x5_1 p325 q325;obtain rfl:ad322=ad325:=(by injection e325);replace p325:=eq_true p325;replace q325:=eq_true q325
        go_upto_if 48 with (fail)
        have H := HU11.out; clear HU11
        by_cases c12 : ((rd_T38 l0 x5_1).f1.f2) = (wrap64 ((wrap64 ((wrap64 (x1_1 + 1)) + 1)) + 1))
        ·rw [if_pos c12] at H
         have c12b0:(((rd_T38 l0 x5_1).f1.f2) == (wrap64 ((wrap64 ((wrap64 (x1_1 + 1)) + 1)) + 1)))=true:=beq_iff_eq.mpr c12;have c12b1:(((rd_T38 l0 x5_1).f1.f2) != (wrap64 ((wrap64 ((wrap64 (x1_1 + 1)) + 1)) + 1)))=false:=bne_eq_false_iff_eq.mpr c12;clear c12;(first|rw [c12b0]|(simp only [i64_w,i32_w];rw [c12b0])|(have cz_:=c12b0;simp only [bne,gt_iff_lt,Int.natCast_pos] at cz_;first|rw [cz_]|(simp only [i64_w,i32_w];rw [cz_]))|skip);have H':=Aside0.mk H;clear H
         go_wp2
         go_roundg k1
         case measure => have := HK1.out; omega
         case rel=>exact ⟨(wrap64 ((wrap64 ((wrap64 ((wrap64 (x1_1 + 1)) + 1)) + 1)) + 1)),(wrap64 (x5_1 + 1)),Z28,Z28,H',⟨by have:=HK1.out;omega⟩,by repeat (first|exact Drawn0.refl _|apply Drawn0.step)⟩
        ·rw [if_neg c12] at H
         have c12b0:(((rd_T38 l0 x5_1).f1.f2) == (wrap64 ((wrap64 ((wrap64 (x1_1 + 1)) + 1)) + 1)))=false:=beq_eq_false_iff_ne.mpr c12;have c12b1:(((rd_T38 l0 x5_1).f1.f2) != (wrap64 ((wrap64 ((wrap64 (x1_1 + 1)) + 1)) + 1)))=true:=bne_iff_ne.mpr c12;(first|rw [c12b0]|(simp only [i64_w,i32_w];rw [c12b0])|(have cz_:=c12b0;simp only [bne,gt_iff_lt,Int.natCast_pos] at cz_;first|rw [cz_]|(simp only [i64_w,i32_w];rw [cz_]))|skip);obtain rfl:=Option.some.inj H
         go_wp2
         go_ret; exact ⟨by first | rfl | (simp; done) | (simp [*]; done), by repeat (first | exact Drawn0.refl _ | apply Drawn0.step)⟩
       ·rw [if_neg c10] at H
        have c10b0:(((rd_T38 l0 x5_1).f1.f1) == (wrap64 ((wrap64 (x1_1 + 1)) + 1)))=false:=beq_eq_false_iff_ne.mpr c10;have c10b1:(((rd_T38 l0 x5_1).f1.f1) != (wrap64 ((wrap64 (x1_1 + 1)) + 1)))=true:=bne_iff_ne.mpr c10;(first|rw [c10b0]|(simp only [i64_w,i32_w];rw [c10b0])|(have cz_:=c10b0;simp only [bne,gt_iff_lt,Int.natCast_pos] at cz_;first|rw [cz_]|(simp only [i64_w,i32_w];rw [cz_]))|skip);obtain rfl:=Option.some.inj H
        go_wp2
        go_ret; exact ⟨by first | rfl | (simp; done) | (simp [*]; done), by repeat (first | exact Drawn0.refl _ | apply Drawn0.step)⟩
      ·rw [if_neg c8] at H
       have c8b0:(((rd_T38 l0 x5_1).f1.f0) == (wrap64 (x1_1 + 1)))=false:=beq_eq_false_iff_ne.mpr c8;have c8b1:(((rd_T38 l0 x5_1).f1.f0) != (wrap64 (x1_1 + 1)))=true:=bne_iff_ne.mpr c8;(first|rw [c8b0]|(simp only [i64_w,i32_w];rw [c8b0])|(have cz_:=c8b0;simp only [bne,gt_iff_lt,Int.natCast_pos] at cz_;first|rw [cz_]|(simp only [i64_w,i32_w];rw [cz_]))|skip);obtain rfl:=Option.some.inj H
       go_wp2
       go_ret; exact ⟨by first | rfl | (simp; done) | (simp [*]; done), by repeat (first | exact Drawn0.refl _ | apply Drawn0.step)⟩
     ·rw [if_neg c6] at H
      have c6b0:(((rd_T38 l0 x5_1).f0) == x1_1)=false:=beq_eq_false_iff_ne.mpr c6;have c6b1:(((rd_T38 l0 x5_1).f0) != x1_1)=true:=bne_iff_ne.mpr c6;(first|rw [c6b0]|(simp only [i64_w,i32_w];rw [c6b0])|(have cz_:=c6b0;simp only [bne,gt_iff_lt,Int.natCast_pos] at cz_;first|rw [cz_]|(simp only [i64_w,i32_w];rw [cz_]))|skip);obtain rfl:=Option.some.inj H
      go_wp2
      go_ret; exact ⟨by first | rfl | (simp; done) | (simp [*]; done), by repeat (first | exact Drawn0.refl _ | apply Drawn0.step)⟩
    ·rw [if_neg c4] at H
     exact absurd H (by simp)
   ·rw [if_neg c3] at H
    have c3b0 : decide (x5_1 < (l0.length : Int)) = false := decide_eq_false c3; clear c3; obtain rfl := Option.some.inj H
    go_wp2
    go_ret; exact ⟨by first | rfl | (simp; done) | (simp [*]; done), by repeat (first | exact Drawn0.refl _ | apply Drawn0.step)⟩

/-! ### laws_heldLine: function 11 -/
def laws_heldLine.f (k : Nat) (a0_0 : Int) (l0_1 : List (S38)) (l0_2 : List (S38)) (l0_3 : List (S38)) (a1 : Int) : Option (Int) := (laws_heldJobS.f k l0_1 a1).bind fun t327 => (if t327 < 0 then (some (-1)) else ((laws_heldJobS.f k l0_2 t327).bind fun t328 => (if t328 < 0 then (some (-1)) else ((laws_heldJobS.f k l0_3 t328).bind fun t329 => (if t329 < 0 then (some (-1)) else (some t329))))))
set_option maxHeartbeats 8000000 in
set_option maxRecDepth 100000 in
theorem laws_heldLine.calls (k : Nat) (a0_0 : Int) (A0_1 : Option Addr) (c0_1 : Nat) (l0_1 : List (S38)) (A0_2 : Option Addr) (c0_2 : Nat) (l0_2 : List (S38)) (A0_3 : Option Addr) (c0_3 : Nat) (l0_3 : List (S38)) (a1 : Int) (r : Int) (w : World) (hr0_1 : Kd.C k38 w A0_1 l0_1.length l0_1) (hc0_1 : l0_1.length ≤ c0_1) (hr0_2 : Kd.C k38 w A0_2 l0_2.length l0_2) (hc0_2 : l0_2.length ≤ c0_2) (hr0_3 : Kd.C k38 w A0_3 l0_3.length l0_3) (hc0_3 : l0_3.length ≤ c0_3) (h : laws_heldLine.f k a0_0 l0_1 l0_2 l0_3 a1 = some r) :
  Calls Try.prog 11 #[.agg #[.int .i64 a0_0,.slice A0_1 l0_1.length c0_1,.slice A0_2 l0_2.length c0_2,.slice A0_3 l0_3.length c0_3],.int .i64 a1] w fun e w'=>e=.returned (.int .i64 r)∧Below w.heap.size w w':=by
 have hu32 := Try.underlying32
 have HR0_1 := Aside0.mk hr0_1
 have HC0_1 := Aside0.mk hc0_1
 clear hr0_1 hc0_1
 have HR0_2 := Aside0.mk hr0_2
 have HC0_2 := Aside0.mk hc0_2
 clear hr0_2 hc0_2
 have HR0_3 := Aside0.mk hr0_3
 have HC0_3 := Aside0.mk hc0_3
 clear hr0_3 hc0_3
 have HB := Aside0.mk (Below.refl w.heap.size w)
 have H:((laws_heldJobS.f k l0_1 a1).bind fun t327=>(if t327 < 0 then (some (-1)) else ((laws_heldJobS.f k l0_2 t327).bind fun t328=>(if t328 < 0 then (some (-1)) else ((laws_heldJobS.f k l0_3 t328).bind fun t329=>(if t329 < 0 then (some (-1)) else (some t329)))))))=some r:=h
 clear h
 obtain ⟨t327, A30, H⟩ := Option.bind_eq_some_iff.mp H
 (try dsimp only at H)
 have A3 := Aside0.mk A30
 clear A30
 have HU4 := Aside0.mk H
 clear H
 go_enter Try.func11, Try.ntmps11
 go_upto_if 10 with (first|((with_reducible refine gate_dst (N:=2) rfl ?_);refine box_event ?hg (N:=2) ?hd (cs:=#[.int .i64 a0_0,.slice A0_1 l0_1.length c0_1,.slice A0_2 l0_2.length c0_2,.slice A0_3 l0_3.length c0_3]) (t:=32) ?hr ?_;(case hd=>rfl);(case hg=>rfl);(case hr=>first|(go_simp;done)|(go_simp;rfl));intro gb326 hg w5 hbox hb;have n_:=an_ (below_step (pB_ HB.out) hb)<|an_ (hbox)<|an_ ((by rw [hg];exact (below_size (pB_ HB.out)):w.heap.size≤gb326))<|Aside0.mk ((by rw [hg];exact (below_size (pB_ HB.out)):w.heap.size≤gb326));clear HB;obtain ⟨HB,BK326,GW326,GE326⟩:=n_;clear hb hbox hg;have hcz6_0:w5.cell? ⟨gb326,0,none⟩=some (.int .i64 a0_0):=(blk_cell BK326.out 0).trans rfl;have hcz6_1:w5.cell? ⟨gb326,1,none⟩=some (.slice A0_1 l0_1.length c0_1):=(blk_cell BK326.out 1).trans rfl;have hcz6_2:w5.cell? ⟨gb326,2,none⟩=some (.slice A0_2 l0_2.length c0_2):=(blk_cell BK326.out 2).trans rfl;have hcz6_3:w5.cell? ⟨gb326,3,none⟩=some (.slice A0_3 l0_3.length c0_3):=(blk_cell BK326.out 3).trans rfl;have hfz6_0:=blk_frozen BK326.out 0;have hfz6_1:=blk_frozen BK326.out 1;have hfz6_2:=blk_frozen BK326.out 2;have hfz6_3:=blk_frozen BK326.out 3)|((with_reducible refine gate_callee (f:=28) rfl ?_);refine goesL_ (some 8) rfl rfl Try.func28 (by kernel_rfl) rfl #[.slice A0_1 l0_1.length c0_1,.int .i64 a1] rfl Z22 ?_;(with_reducible refine (laws_heldJobS.calls k _ _ l0_1 a1 t327 _ ?side1 ?side2 A3.out).mono ?_);(case side1=>exact pC_ (Kd.C_below HR0_1.out HB.out));(case side2=>exact HC0_1.out);rintro e w' ⟨rfl,⟨nd,rfl⟩⟩;refine ⟨_,rfl,?_⟩))
 have H := HU4.out
 clear HU4
 by_cases c7 : t327 < 0
 ·rw [if_pos c7] at H
  have c7b0:decide (t327 < 0)=true:=decide_eq_true c7;clear c7;(first|rw [c7b0]|(simp only [i64_w,i32_w];rw [c7b0])|(have cz_:=c7b0;simp only [bne,gt_iff_lt,Int.natCast_pos] at cz_;first|rw [cz_]|(simp only [i64_w,i32_w];rw [cz_]))|skip);obtain rfl:=Option.some.inj H
  go_wp2
  go_ret;exact ⟨by first|rfl|(simp [errW_none,errW_some] <;> rfl)|(simp [*,errW_none,errW_some] <;> rfl),by repeat (first|(with_reducible first|exact HB.out|apply below_alloc|apply pw_below_drewN|apply below_drew1|refine below_set ?_ GE326.out)|exact HB.out)⟩
 ·rw [if_neg c7] at H
  have c7b0:decide (t327 < 0)=false:=decide_eq_false c7;clear c7;(first|rw [c7b0]|(simp only [i64_w,i32_w];rw [c7b0])|(have cz_:=c7b0;simp only [bne,gt_iff_lt,Int.natCast_pos] at cz_;first|rw [cz_]|(simp only [i64_w,i32_w];rw [cz_]))|skip);obtain ⟨t328,A80,H⟩:=Option.bind_eq_some_iff.mp H;(try dsimp only at H);have A8:=Aside0.mk A80;clear A80;have HU9:=Aside0.mk H;clear H;obtain ⟨hcz10_0,hcz10_1,hcz10_2,hcz10_3,hfz10_0,hfz10_1,hfz10_2,hfz10_3⟩:=cells4 BK326.out
  go_upto_if 16 with (first|((with_reducible refine gate_callee (f:=28) rfl ?_);refine goesL_ (some 14) rfl rfl Try.func28 (by kernel_rfl) rfl #[.slice A0_2 l0_2.length c0_2,.int .i64 t327] rfl Z22 ?_;(with_reducible refine (laws_heldJobS.calls k _ _ l0_2 t327 t328 _ ?side1 ?side2 A8.out).mono ?_);(case side1=>exact pC_ (Kd.C_below HR0_2.out HB.out));(case side2=>exact HC0_2.out);rintro e w' ⟨rfl,⟨nd,rfl⟩⟩;refine ⟨_,rfl,?_⟩))
  have H := HU9.out; clear HU9
  by_cases c11 : t328 < 0
  ·rw [if_pos c11] at H
   have c11b0:decide (t328 < 0)=true:=decide_eq_true c11;clear c11;(first|rw [c11b0]|(simp only [i64_w,i32_w];rw [c11b0])|(have cz_:=c11b0;simp only [bne,gt_iff_lt,Int.natCast_pos] at cz_;first|rw [cz_]|(simp only [i64_w,i32_w];rw [cz_]))|skip);obtain rfl:=Option.some.inj H
   go_wp2
   go_ret;exact ⟨by first|rfl|(simp [errW_none,errW_some] <;> rfl)|(simp [*,errW_none,errW_some] <;> rfl),by repeat (first|(with_reducible first|exact HB.out|apply below_alloc|apply pw_below_drewN|apply below_drew1|refine below_set ?_ GE326.out)|exact HB.out)⟩
  ·rw [if_neg c11] at H
   have c11b0:decide (t328 < 0)=false:=decide_eq_false c11;clear c11;(first|rw [c11b0]|(simp only [i64_w,i32_w];rw [c11b0])|(have cz_:=c11b0;simp only [bne,gt_iff_lt,Int.natCast_pos] at cz_;first|rw [cz_]|(simp only [i64_w,i32_w];rw [cz_]))|skip);obtain ⟨t329,A120,H⟩:=Option.bind_eq_some_iff.mp H;(try dsimp only at H);have A12:=Aside0.mk A120;clear A120;have HU13:=Aside0.mk H;clear H;obtain ⟨hcz14_0,hcz14_1,hcz14_2,hcz14_3,hfz14_0,hfz14_1,hfz14_2,hfz14_3⟩:=cells4 BK326.out
   go_upto_if 22 with (first|((with_reducible refine gate_callee (f:=28) rfl ?_);refine goesL_ (some 20) rfl rfl Try.func28 (by kernel_rfl) rfl #[.slice A0_3 l0_3.length c0_3,.int .i64 t328] rfl Z22 ?_;(with_reducible refine (laws_heldJobS.calls k _ _ l0_3 t328 t329 _ ?side1 ?side2 A12.out).mono ?_);(case side1=>exact pC_ (Kd.C_below HR0_3.out HB.out));(case side2=>exact HC0_3.out);rintro e w' ⟨rfl,⟨nd,rfl⟩⟩;refine ⟨_,rfl,?_⟩))
   have H := HU13.out; clear HU13
   by_cases c15 : t329 < 0
   ·rw [if_pos c15] at H
    have c15b0:decide (t329 < 0)=true:=decide_eq_true c15;clear c15;(first|rw [c15b0]|(simp only [i64_w,i32_w];rw [c15b0])|(have cz_:=c15b0;simp only [bne,gt_iff_lt,Int.natCast_pos] at cz_;first|rw [cz_]|(simp only [i64_w,i32_w];rw [cz_]))|skip);obtain rfl:=Option.some.inj H
    go_wp2
    go_ret;exact ⟨by first|rfl|(simp [errW_none,errW_some] <;> rfl)|(simp [*,errW_none,errW_some] <;> rfl),by repeat (first|(with_reducible first|exact HB.out|apply below_alloc|apply pw_below_drewN|apply below_drew1|refine below_set ?_ GE326.out)|exact HB.out)⟩
   ·rw [if_neg c15] at H
    have c15b0:decide (t329 < 0)=false:=decide_eq_false c15;clear c15;(first|rw [c15b0]|(simp only [i64_w,i32_w];rw [c15b0])|(have cz_:=c15b0;simp only [bne,gt_iff_lt,Int.natCast_pos] at cz_;first|rw [cz_]|(simp only [i64_w,i32_w];rw [cz_]))|skip);obtain rfl:=Option.some.inj H
    go_wp2
    go_ret;exact ⟨by first|rfl|(simp [errW_none,errW_some] <;> rfl)|(simp [*,errW_none,errW_some] <;> rfl),by repeat (first|(with_reducible first|exact HB.out|apply below_alloc|apply pw_below_drewN|apply below_drew1|refine below_set ?_ GE326.out)|exact HB.out)⟩

end Go.Proofs.Ytcdangcjbijfkab.PFnExactLinePut
