-- by a program of this session's, over the kit's words
import Derived.Test.YtecabogkenabnacPZFnExactMains
import Derived.Test.YtecabogkenabnacPFnExactMainsx0
import Derived.Test.YtecabogkenabnacPFnExactMainsx2
namespace Go.Proofs.Ytecabogkenabnac.PFnExactMains
open Go.RowKit Go.Proofs.YtecabogkenabnacW.PrintWords Go.Proofs.YtecabogkenabnacW.PrintLast Go.Proofs.YtecabogkenabnacW.PrintMore Go.Proofs.YtecabogkenabnacV Go.Proofs.Ytecabogkenabnac.ZFnExactMains
attribute [local go_sem] max2_int min2_int max_two min_two max_three min_three max_four min_four   -- for this text's walks alone
set_option linter.unusedVariables false
set_option linter.unusedSimpArgs false

/-! ### spec_l19Mains: function 15 -/
mutual
def spec_l19Mains.l0 : Nat → List (S43) → List Int → Int → Option (List Int)
 | 0, _, _, _ => none
 | k + 1, x0, x3, x4 => if x4 < 3 then (spec_l19Mains.j1 k x0 x3 x4 (decide ((x0.length : Int) > 0))) else (spec_l19Mains.j1 k x0 x3 x4 false)
def spec_l19Mains.j1 : Nat → List (S43) → List Int → Int → Bool → Option (List Int)
 | 0, _, _, _, _ => none
 | k + 1, x0, x3, x4, x14 => if x14 = true then (spec_l19Mains.l1 k x0 x3 x4 true 0) else (some x3)
def spec_l19Mains.l1 : Nat → List (S43) → List Int → Int → Bool → Int → Option (List Int)
 | 0, _, _, _, _, _ => none
 | k + 1,x0,x3,x4,x5,x6=>if x6 < (x0.length:Int) then (if x5=true then (if 0≤x6 then ((spec_l13List.f ((rd_T43 x0 x6).f2.f0) ((rd_T43 x0 x6).f2.f1) ((rd_T43 x0 x6).f2.f2)).bind fun t128=>(if 0≤x4 then (if x4 < (t128.length:Int) then ((spec_VecTop.f ((rd_T43 x0 x6).f2.f0) ((rd_T43 x0 x6).f2.f1) ((rd_T43 x0 x6).f2.f2)).bind fun t133=>(spec_l19Mains.l1 k x0 x3 x4 ((rd t128 x4) == t133) (wrap64 (x6 + 1)))) else (none)) else (none))) else (none)) else (spec_l19Mains.l1 k x0 x3 x4 false (wrap64 (x6 + 1)))) else (if x5=true then (if x3.length < 17592186044416 then (spec_l19Mains.l0 k x0 (x3 ++ [x4]) (wrap64 (x4 + 1))) else (none)) else (spec_l19Mains.l0 k x0 x3 (wrap64 (x4 + 1))))
end
def spec_l19Mains.f (k : Nat) (l0 : List (S43)) : Option (List Int) := spec_l19Mains.l0 k l0 (([] : List Int)) 0
def spec_l19Mains.T9 : Bool × List (List Nat × List Nat) := (true, [([], []), ([0], [0]), ([1], [1]), ([1], [1]), ([2, 3, 1], [1, 2, 3]), ([4, 1], [1, 4]), ([5, 1], [1, 5]), ([6, 1, 1], [1, 6]), ([1], [1]), ([7, 8, 1], [1, 7, 8]), ([9, 1], [1, 9]), ([1], [1]), ([1], [1]), ([11, 12, 1], [1, 11, 12]), ([13, 1], [1, 13]), ([14, 1], [1, 14]), ([15, 7, 1], [1, 15]), ([10, 16, 1], [1, 10, 16]), ([1, 17], [1, 17]), ([18, 16, 0, 1, 2, 3, 4, 5, 6, 7, 8, 9, 10, 11, 12, 13, 14, 15, 16, 17, 18], [0, 18])])
def spec_l19Mains.B9 : List Nat := [0, 1, 3, 3, 15, 31, 63, 127, 3, 511, 1023, 3, 3, 6147, 14339, 30723, 63743, 131071, 262143, 524287]
theorem spec_l19Mains.tab9 : rtab .any (opsOf Try.f15 9) = spec_l19Mains.T9 := by kernel_rfl
theorem spec_l19Mains.bits9 : waitsOk spec_l19Mains.T9.2 spec_l19Mains.B9 = true := by kernel_rfl
set_option maxHeartbeats 8000000 in
set_option maxRecDepth 100000 in
theorem spec_l19Mains.calls (k : Nat) (A0 : Option Addr) (c0 : Nat) (l0 : List (S43)) (r : List Int) (w : World) (hr0 : Kd.C k43 w A0 l0.length l0) (hc0 : l0.length ≤ c0) (h : spec_l19Mains.f k l0 = some r) :
  Calls Try.prog 15 #[.slice A0 l0.length c0] w fun e w' => ∃ v0_ : Value, e = .returned (v0_) ∧ Kd.R (Kd.int .i64) 3 w' w.heap.size (fun _ => True) v0_ r ∧ Below w.heap.size w w' := by
 have hu41 := Try.underlying41
 have HR0 := Aside0.mk hr0
 have HC0 := Aside0.mk hc0
 clear hr0 hc0
 have HB := Aside0.mk (Below.refl w.heap.size w)
 have H : (spec_l19Mains.l0 k l0 (([] : List Int)) 0) = some r := h
 clear h
 obtain ⟨y124, hy124⟩ : ∃ y_ : List Int, y_ = (([] : List Int)) := ⟨_, rfl⟩
 replace H:(spec_l19Mains.l0 k l0 y124 0)=some r:=by first|(rw [hy124];with_reducible exact H)|(have H2_:=(Option.bind_some _ _).symm.trans H;rw [hy124];with_reducible exact H2_)|(have H2_:=(Option.bind_some _ _).symm.trans H;with_reducible exact H2_)|with_reducible exact H|(rw [hy124];exact H)|exact H
 have Ny124 := Aside0.mk hy124
 clear hy124
 have H' := Aside0.mk H
 clear H
 go_enter Try.func15, Try.ntmps15
 go_wp2_with (first|((with_reducible refine gate_dst (N:=7) rfl ?_);(try (refine gate_guard (by rfl) ?_;dsimp only));refine Kd.R_lit (Kd.int .i64) _ 3 ?hg (N:=7) ?hd (xs:=([]:List Int)) (inner:=[]) (ok:=fun _=>True) (okp:=fun _=>True) ?hr ?hp (fun _ hk=>hk) trivial (Below.refl _ _) (Nat.le_refl _) (by simp) ?_;(case hd=>rfl);(case hg=>rfl);(case hr=>first|(go_simp;done)|(go_simp;rfl));(case hp=>exact (Reps.none _ _));intro Kb w2 ho3 hb hg_ hnew_;clear hg_ hnew_;(first|rw [← Ny124.out] at ho3|(simp only [Int.reduceToNat] at ho3;rw [← Ny124.out] at ho3));have n_:=an_ (Kd.R_lower ho3 (below_size (pB_ HB.out)))<|Aside0.mk (below_step (pB_ HB.out) hb);clear HB;obtain ⟨Xa,HB⟩:=n_;clear hb ho3))
 go_loopg [3,4] k (fun kq v3 v4 w'=>∃ (x3_1:List Int) (x4_1:Int),v4=.int .i64 x4_1∧Aside0 (spec_l19Mains.l0 kq l0 x3_1 x4_1=some r)∧Aside0 (kq≤k)∧Aside0 (Kd.R (Kd.int .i64) 3 w' w.heap.size (fun _=>True) v3 x3_1)∧Aside0 (Below w.heap.size w w'))
 case atStart => exact ⟨(y124), (0), Z9, H', ⟨Nat.le_refl _⟩, ⟨pR_ Xa.out⟩, ⟨pB_ HB.out⟩⟩
 case round =>
  clear H'
  try clear c1
  try clear p2
  obtain ⟨x3_1, x4_1, rfl, HA, HK1, Ja, HB⟩ := hrel
  cases gk with
  | zero => exact absurd HA.out (by simp [spec_l19Mains.l0])
  | succ k1 =>
   have H := HA.out; clear HA; simp only [spec_l19Mains.l0] at H; have HC4 := Aside0.mk H; clear H
   go_upto_region 3 with (fail)
   go_cut [14] (fun v14 wc=>∃ (kq:Nat) (Oa:Bool),v14=.bool Oa∧Aside0 (spec_l19Mains.j1 kq l0 x3_1 x4_1 Oa=some r)∧Aside0 (kq≤k1)∧Aside0 (Kd.R (Kd.int .i64) 3 wc w.heap.size (fun _=>True) u3 x3_1)∧Aside0 (Below w.heap.size w wc))
   case first =>
    have H := HC4.out; clear HC4
    by_cases c5 : x4_1 < 3
    ·rw [if_pos c5] at H
     have c5b0:decide (x4_1 < 3)=true:=decide_eq_true c5;clear c5;(first|rw [c5b0]|(simp only [i64_w,i32_w];rw [c5b0])|(have cz_:=c5b0;simp only [bne,gt_iff_lt,Int.natCast_pos] at cz_;first|rw [cz_]|(simp only [i64_w,i32_w];rw [cz_]))|skip);have H':=Aside0.mk H;clear H
     go_wp2
     go_meet
     case rel => exact ⟨_, (decide ((l0.length : Int) > 0)), Z9, H', ⟨by have := HK1.out; first | omega | exact Nat.le_refl _⟩, ⟨pR_ Ja.out⟩, ⟨pB_ HB.out⟩⟩
    ·rw [if_neg c5] at H
     have c5b0:decide (x4_1 < 3)=false:=decide_eq_false c5;clear c5;(first|rw [c5b0]|(simp only [i64_w,i32_w];rw [c5b0])|(have cz_:=c5b0;simp only [bne,gt_iff_lt,Int.natCast_pos] at cz_;first|rw [cz_]|(simp only [i64_w,i32_w];rw [cz_]))|skip);have H':=Aside0.mk H;clear H
     go_wp2
     go_meet
     case rel => exact ⟨_, (false), Z9, H', ⟨by have := HK1.out; first | omega | exact Nat.le_refl _⟩, ⟨pR_ Ja.out⟩, ⟨pB_ HB.out⟩⟩
   case rest =>
    clear HC4
    try clear c1
    try clear p2
    try clear c5
    try clear c5b0
    try clear p2
    obtain ⟨kq, Oa, rfl, HA, HJ3, Ja, HB⟩ := hcut
    cases kq with
    | zero => exact absurd HA.out (by simp [spec_l19Mains.j1])
    | succ kj3 =>
     have H := HA.out; clear HA; simp only [spec_l19Mains.j1] at H
     by_cases c6 : Oa = true
     ·subst c6
      rw [if_pos rfl] at H; have H' := Aside0.mk H; clear H
      go_wp2
      go_loopg [5,6] kj3 (fun kq v5 v6 w'=>∃ (x5_3:Bool) (x6_3:Int),v5=.bool x5_3∧v6=.int .i64 x6_3∧Aside0 (spec_l19Mains.l1 kq l0 x3_1 x4_1 x5_3 x6_3=some r)∧Aside0 (kq≤kj3)∧Aside0 (Kd.R (Kd.int .i64) 3 w' w.heap.size (fun _=>True) u3 x3_1)∧Aside0 (Below w.heap.size w w'))
      case atStart => exact ⟨(true), (0), Z9, Z9, H', ⟨Nat.le_refl _⟩, ⟨pR_ Ja.out⟩, ⟨pB_ HB.out⟩⟩
      case round =>
       clear H'
       try clear c1
       try clear p2
       try clear c5
       try clear c5b0
       try clear c6
       try clear p2
       obtain ⟨x5_3, x6_3, rfl, rfl, HA, HK3, Ja, HB⟩ := hrel
       cases gk with
       | zero => exact absurd HA.out (by simp [spec_l19Mains.l1])
       | succ k3 =>
        have H := HA.out; clear HA; simp only [spec_l19Mains.l1] at H
        by_cases c7 : x6_3 < (l0.length : Int)
        ·rw [if_pos c7] at H
         have c7b0 : decide (x6_3 < (l0.length : Int)) = true := decide_eq_true c7; clear c7
         by_cases c8 : x5_3 = true
         ·subst c8
          rw [if_pos rfl] at H
          by_cases c9 : 0 ≤ x6_3
          ·rw [if_pos c9] at H
           have c9b0 : decide (0 ≤ x6_3) = true := decide_eq_true c9; clear c9; obtain ⟨Ka, A100, H⟩ := Option.bind_eq_some_iff.mp H; (try dsimp only at H); have A10 := Aside0.mk A100; clear A100
           by_cases c11 : 0 ≤ x4_1
           ·rw [if_pos c11] at H
            have c11b0 : decide (0 ≤ x4_1) = true := decide_eq_true c11; clear c11
            by_cases c12 : x4_1 < (Ka.length : Int)
            ·rw [if_pos c12] at H
             have c12b0:decide (x4_1 < (Ka.length:Int))=true:=decide_eq_true c12;clear c12;obtain ⟨Ua,A130,H⟩:=Option.bind_eq_some_iff.mp H;(try dsimp only at H);have A13:=Aside0.mk A130;clear A130;have H':=Aside0.mk H;clear H
             try go_wp2
             have n_ := an_ (Kd.R_drew Ja.out) <| Aside0.mk (below_drew1 HB.out)
             clear Ja HB;obtain ⟨Ja,HB⟩:=n_;have p127:0≤(x6_3:Int):=of_decide_eq_true Z8;have q127:x6_3 < (l0.length:Int):=of_decide_eq_true Z8;obtain ⟨ad127,A127_5,c127_5,e127,hx127_0,hx127_1,hx127_2,hx127_3,hx127_4,hx127_5,hl127_5,hi127_5⟩:=at_T43 HR0.out x6_3 p127 q127;have hw127_5:=hx127_5;have hw127_4:=hx127_4;have hw127_3:=hx127_3;have hw127_2:=hx127_2;have hw127_1:=hx127_1;have hw127_0:=hx127_0;cases e127;replace hx127_0:=(HB.out.cell (World.block_lt_of_cell? w _ hx127_0)).trans hx127_0;replace hx127_1:=(HB.out.cell (World.block_lt_of_cell? w _ hx127_1)).trans hx127_1;replace hx127_2:=(HB.out.cell (World.block_lt_of_cell? w _ hx127_2)).trans hx127_2;replace hx127_3:=(HB.out.cell (World.block_lt_of_cell? w _ hx127_3)).trans hx127_3;replace hx127_4:=(HB.out.cell (World.block_lt_of_cell? w _ hx127_4)).trans hx127_4;replace hx127_5:=(HB.out.cell (World.block_lt_of_cell? w _ hx127_5)).trans hx127_5;have HR127_5:=Aside0.mk hi127_5;have HC127_5:=Aside0.mk hl127_5;clear hi127_5 hl127_5;replace p127:=eq_true p127;replace q127:=eq_true q127;have p132:0≤(x6_3:Int):=of_decide_eq_true Z8;have q132:x6_3 < (l0.length:Int):=of_decide_eq_true Z8;obtain ⟨ad132,A132_5,c132_5,e132,hx132_0,hx132_1,hx132_2,hx132_3,hx132_4,hx132_5,hl132_5,hi132_5⟩:=at_T43 HR0.out x6_3 p132 q132;have hw132_5:=hx132_5;have hw132_4:=hx132_4;have hw132_3:=hx132_3;have hw132_2:=hx132_2;have hw132_1:=hx132_1;have hw132_0:=hx132_0;obtain rfl:ad127=ad132:=(by injection e132);replace hx132_0:=(HB.out.cell (World.block_lt_of_cell? w _ hx132_0)).trans hx132_0;replace hx132_1:=(HB.out.cell (World.block_lt_of_cell? w _ hx132_1)).trans hx132_1;replace hx132_2:=(HB.out.cell (World.block_lt_of_cell? w _ hx132_2)).trans hx132_2;replace hx132_3:=(HB.out.cell (World.block_lt_of_cell? w _ hx132_3)).trans hx132_3;replace hx132_4:=(HB.out.cell (World.block_lt_of_cell? w _ hx132_4)).trans hx132_4;replace hx132_5:=(HB.out.cell (World.block_lt_of_cell? w _ hx132_5)).trans hx132_5;have HR132_5:=Aside0.mk hi132_5;have HC132_5:=Aside0.mk hl132_5;clear hi132_5 hl132_5;replace p132:=eq_true p132;replace q132:=eq_true q132;have ea_:=Option.some.inj (hx127_5.symm.trans hx132_5)
             injection ea_ with ea_ en_ ec_
             subst ea_;subst ec_;clear en_;refine start_ (n:=20) (S:=fun w'=>w'.cell? (ad127.add ((x6_3).toNat * 6))=some (.int .i64 ((rd_T43 l0 x6_3).f0))∧w'.cell? ⟨(ad127.add ((x6_3).toNat * 6)).block,(ad127.add ((x6_3).toNat * 6)).off + 1,none⟩=some (.int .i64 ((rd_T43 l0 x6_3).f1))∧w'.cell? ⟨(ad127.add ((x6_3).toNat * 6)).block,(ad127.add ((x6_3).toNat * 6)).off + 2,none⟩=some (.int .i64 ((rd_T43 l0 x6_3).f2.f0))∧w'.cell? ⟨(ad127.add ((x6_3).toNat * 6)).block,(ad127.add ((x6_3).toNat * 6)).off + 3,none⟩=some (.int .i64 ((rd_T43 l0 x6_3).f2.f1))∧w'.cell? ⟨(ad127.add ((x6_3).toNat * 6)).block,(ad127.add ((x6_3).toNat * 6)).off + 4,none⟩=some (.int .i64 ((rd_T43 l0 x6_3).f2.f2))∧w'.cell? ⟨(ad127.add ((x6_3).toNat * 6)).block,(ad127.add ((x6_3).toNat * 6)).off + 5,none⟩=some (.slice A127_5 ((rd_T43 l0 x6_3).f3).length c127_5)∧w'.cell? (ad127.add ((x6_3).toNat * 6))=some (.int .i64 ((rd_T43 l0 x6_3).f0))∧w'.cell? ⟨(ad127.add ((x6_3).toNat * 6)).block,(ad127.add ((x6_3).toNat * 6)).off + 1,none⟩=some (.int .i64 ((rd_T43 l0 x6_3).f1))∧w'.cell? ⟨(ad127.add ((x6_3).toNat * 6)).block,(ad127.add ((x6_3).toNat * 6)).off + 2,none⟩=some (.int .i64 ((rd_T43 l0 x6_3).f2.f0))∧w'.cell? ⟨(ad127.add ((x6_3).toNat * 6)).block,(ad127.add ((x6_3).toNat * 6)).off + 3,none⟩=some (.int .i64 ((rd_T43 l0 x6_3).f2.f1))∧w'.cell? ⟨(ad127.add ((x6_3).toNat * 6)).block,(ad127.add ((x6_3).toNat * 6)).off + 4,none⟩=some (.int .i64 ((rd_T43 l0 x6_3).f2.f2))∧w'.cell? ⟨(ad127.add ((x6_3).toNat * 6)).block,(ad127.add ((x6_3).toNat * 6)).off + 5,none⟩=some (.slice A127_5 ((rd_T43 l0 x6_3).f3).length c127_5)∧True) (ds:=[]) (bz 20 0) (by kernel_rfl) rfl (by kernel_rfl) ⟨((HB.out.cell (World.block_lt_of_cell? w _ hw127_0)).trans hw127_0),((HB.out.cell (World.block_lt_of_cell? w _ hw127_1)).trans hw127_1),((HB.out.cell (World.block_lt_of_cell? w _ hw127_2)).trans hw127_2),((HB.out.cell (World.block_lt_of_cell? w _ hw127_3)).trans hw127_3),((HB.out.cell (World.block_lt_of_cell? w _ hw127_4)).trans hw127_4),((HB.out.cell (World.block_lt_of_cell? w _ hw127_5)).trans hw127_5),((HB.out.cell (World.block_lt_of_cell? w _ hw132_0)).trans hw132_0),((HB.out.cell (World.block_lt_of_cell? w _ hw132_1)).trans hw132_1),((HB.out.cell (World.block_lt_of_cell? w _ hw132_2)).trans hw132_2),((HB.out.cell (World.block_lt_of_cell? w _ hw132_3)).trans hw132_3),((HB.out.cell (World.block_lt_of_cell? w _ hw132_4)).trans hw132_4),((HB.out.cell (World.block_lt_of_cell? w _ hw132_5)).trans hw132_5),trivial⟩ (fun hHeld=>?_);refine with_tabW spec_l19Mains.tab9 spec_l19Mains.bits9 (fun HT_ HW_=>?_);generalize wr.drew=w14 at Ja HB HR127_5 HR132_5 hx127_0 hx127_1 hx127_2 hx127_3 hx127_4 hx127_5 hx132_0 hx132_1 hx132_2 hx132_3 hx132_4 hx132_5 hHeld ⊢;refine px_ (i:=0) (N:=some 23) (bz 20 1) (any_of HT_.out (by kernel_rfl)) ?_;refine px_ (i:=1) (N:=some 24) (bz 20 3) (any_of HT_.out (by kernel_rfl)) ?_;refine px_ (i:=2) (N:=some 25) (bz 20 7) (any_of HT_.out (by kernel_rfl)) ?_;refine px_ (i:=3) (N:=some 26) (bz 20 15) (any_of HT_.out (by kernel_rfl)) ?_;refine px_ (i:=4) (N:=some 27) (bz 20 31) (any_of HT_.out (by kernel_rfl)) ?_;refine px_ (i:=5) (N:=some 28) (bz 20 63) (any_of HT_.out (by kernel_rfl)) ?_;refine px_ (i:=8) (N:=some 31) (bz 20 319) (any_of HT_.out (by kernel_rfl)) ?_;refine px_ (i:=11) (N:=some 34) (bz 20 2367) (any_of HT_.out (by kernel_rfl)) ?_;refine px_ (i:=12) (N:=some 35) (bz 20 6463) (any_of HT_.out (by kernel_rfl)) ?_;refine px_ (i:=13) (N:=some 36) (bz 20 14655) (any_of HT_.out (by kernel_rfl)) ?_;refine px_ (i:=14) (N:=some 37) (bz 20 31039) (any_of HT_.out (by kernel_rfl)) ?_;refine tx_ (i:=6) (N:=some 29) (bz 20 31103) rfl rfl (take_ofW HT_.out HW_.out (by kernel_rfl)) hHeld Z5 ?_;refine tx_ (i:=15) (N:=some 38) (bz 20 63871) rfl rfl (take_ofW HT_.out HW_.out (by kernel_rfl)) hHeld Z5 ?_;refine one_ (i:=7) (N:=some 30) (bz 20 63999) rfl rfl (one_of HT_.out (by kernel_rfl)) (by decide) (fun K hK=>?_)
             refine goes_ Try.func24 (by kernel_rfl) rfl #[.agg #[.int .i64 ((rd_T43 l0 x6_3).f2.f0),.int .i64 ((rd_T43 l0 x6_3).f2.f1),.int .i64 ((rd_T43 l0 x6_3).f2.f2)]] (by rfl) rfl rfl Z2 ?_;with_reducible refine (spec_l13List.calls ((rd_T43 l0 x6_3).f2.f0) ((rd_T43 l0 x6_3).f2.f1) ((rd_T43 l0 x6_3).f2.f2) Ka _ A10.out).mono ?_
             rintro e w15 ⟨Mb, rfl, ho0, hb⟩; refine ⟨_, rfl, ?_⟩
             have n_ := an_ (Kd.R_elder' (pR_ Ja.out) (Kd.R_base ho0) hb) <| an_ (Kd.R_lower (nw_ ho0 (pR_ Ja.out)) (below_size (pB_ HB.out))) <| Aside0.mk (below_step (pB_ HB.out) hb)
             clear Ja HB;obtain ⟨Ja,Ma,HB⟩:=n_;(try clear hb);(try clear hb2);(try clear hk);(try clear hi);(try clear ho0);obtain ⟨Ob,Ub,eo16⟩:=Kd.R_slice Ma.out;(first|subst eo16|obtain ⟨rfl,rfl⟩:=sl_inj eo16);have p131:0≤(x4_1:Int):=of_decide_eq_true Z8;have q131:x4_1 < (Ka.length:Int):=of_decide_eq_true Z8;obtain ⟨ad131,e131,hx131_0⟩:=Kd.at_int (Kd.R_reads' Ma.out).2.2 x4_1 p131 q131;cases e131;replace p131:=eq_true p131;replace q131:=eq_true q131;refine hK.out _ _ ⟨((HB.out.cell (World.block_lt_of_cell? w _ hw127_0)).trans hw127_0),((HB.out.cell (World.block_lt_of_cell? w _ hw127_1)).trans hw127_1),((HB.out.cell (World.block_lt_of_cell? w _ hw127_2)).trans hw127_2),((HB.out.cell (World.block_lt_of_cell? w _ hw127_3)).trans hw127_3),((HB.out.cell (World.block_lt_of_cell? w _ hw127_4)).trans hw127_4),((HB.out.cell (World.block_lt_of_cell? w _ hw127_5)).trans hw127_5),((HB.out.cell (World.block_lt_of_cell? w _ hw132_0)).trans hw132_0),((HB.out.cell (World.block_lt_of_cell? w _ hw132_1)).trans hw132_1),((HB.out.cell (World.block_lt_of_cell? w _ hw132_2)).trans hw132_2),((HB.out.cell (World.block_lt_of_cell? w _ hw132_3)).trans hw132_3),((HB.out.cell (World.block_lt_of_cell? w _ hw132_4)).trans hw132_4),((HB.out.cell (World.block_lt_of_cell? w _ hw132_5)).trans hw132_5),trivial⟩ (fun hHeld=>?_);refine more_ (S2:=fun w'=>w'.cell? (ad127.add ((x6_3).toNat * 6))=some (.int .i64 ((rd_T43 l0 x6_3).f0))∧w'.cell? ⟨(ad127.add ((x6_3).toNat * 6)).block,(ad127.add ((x6_3).toNat * 6)).off + 1,none⟩=some (.int .i64 ((rd_T43 l0 x6_3).f1))∧w'.cell? ⟨(ad127.add ((x6_3).toNat * 6)).block,(ad127.add ((x6_3).toNat * 6)).off + 2,none⟩=some (.int .i64 ((rd_T43 l0 x6_3).f2.f0))∧w'.cell? ⟨(ad127.add ((x6_3).toNat * 6)).block,(ad127.add ((x6_3).toNat * 6)).off + 3,none⟩=some (.int .i64 ((rd_T43 l0 x6_3).f2.f1))∧w'.cell? ⟨(ad127.add ((x6_3).toNat * 6)).block,(ad127.add ((x6_3).toNat * 6)).off + 4,none⟩=some (.int .i64 ((rd_T43 l0 x6_3).f2.f2))∧w'.cell? ⟨(ad127.add ((x6_3).toNat * 6)).block,(ad127.add ((x6_3).toNat * 6)).off + 5,none⟩=some (.slice A127_5 ((rd_T43 l0 x6_3).f3).length c127_5)∧w'.cell? (ad127.add ((x6_3).toNat * 6))=some (.int .i64 ((rd_T43 l0 x6_3).f0))∧w'.cell? ⟨(ad127.add ((x6_3).toNat * 6)).block,(ad127.add ((x6_3).toNat * 6)).off + 1,none⟩=some (.int .i64 ((rd_T43 l0 x6_3).f1))∧w'.cell? ⟨(ad127.add ((x6_3).toNat * 6)).block,(ad127.add ((x6_3).toNat * 6)).off + 2,none⟩=some (.int .i64 ((rd_T43 l0 x6_3).f2.f0))∧w'.cell? ⟨(ad127.add ((x6_3).toNat * 6)).block,(ad127.add ((x6_3).toNat * 6)).off + 3,none⟩=some (.int .i64 ((rd_T43 l0 x6_3).f2.f1))∧w'.cell? ⟨(ad127.add ((x6_3).toNat * 6)).block,(ad127.add ((x6_3).toNat * 6)).off + 4,none⟩=some (.int .i64 ((rd_T43 l0 x6_3).f2.f2))∧w'.cell? ⟨(ad127.add ((x6_3).toNat * 6)).block,(ad127.add ((x6_3).toNat * 6)).off + 5,none⟩=some (.slice A127_5 ((rd_T43 l0 x6_3).f3).length c127_5)∧w'.cell? (ad131.add (x4_1).toNat)=some (.int .i64 (rd Ka x4_1))) (fun w' h=>⟨h.1,h.2.1,h.2.2.1,h.2.2.2.1,h.2.2.2.2.1,h.2.2.2.2.2.1,h.2.2.2.2.2.2.1,h.2.2.2.2.2.2.2.1,h.2.2.2.2.2.2.2.2.1,h.2.2.2.2.2.2.2.2.2.1,h.2.2.2.2.2.2.2.2.2.2.1,h.2.2.2.2.2.2.2.2.2.2.2.1,trivial⟩) ⟨hHeld.1,hHeld.2.1,hHeld.2.2.1,hHeld.2.2.2.1,hHeld.2.2.2.2.1,hHeld.2.2.2.2.2.1,hHeld.2.2.2.2.2.2.1,hHeld.2.2.2.2.2.2.2.1,hHeld.2.2.2.2.2.2.2.2.1,hHeld.2.2.2.2.2.2.2.2.2.1,hHeld.2.2.2.2.2.2.2.2.2.2.1,hHeld.2.2.2.2.2.2.2.2.2.2.2.1,hx131_0⟩ (fun hHeld=>?_);clear hK K;refine nx_ (N:=some 30) ?_;refine px_ (i:=9) (N:=some 32) (bz 20 64511) (any_of HT_.out (by kernel_rfl)) ?_;refine tx_ (i:=10) (N:=some 33) (bz 20 65535) rfl rfl (take_ofW HT_.out HW_.out (by kernel_rfl)) hHeld Z5 ?_;refine one_ (i:=16) (N:=some 39) (bz 20 131071) rfl rfl (one_of HT_.out (by kernel_rfl)) (by decide) (fun K hK=>?_);refine goes_ Try.func25 (by kernel_rfl) rfl #[.agg #[.int .i64 ((rd_T43 l0 x6_3).f2.f0),.int .i64 ((rd_T43 l0 x6_3).f2.f1),.int .i64 ((rd_T43 l0 x6_3).f2.f2)]] (by rfl) rfl rfl Z2 ?_
             with_reducible refine (spec_VecTop.calls ((rd_T43 l0 x6_3).f2.f0) ((rd_T43 l0 x6_3).f2.f1) ((rd_T43 l0 x6_3).f2.f2) Ua _ A13.out).mono ?_
             rintro e w17 ⟨rfl, hb⟩; have HS12_ := (hb.cell (World.block_lt_of_cell? _ _ (hHeld.2.2.2.2.2.2.2.2.2.2.2.2))).trans (hHeld.2.2.2.2.2.2.2.2.2.2.2.2); refine ⟨_, rfl, ?_⟩
             have n_ := an_ (Kd.R_below (pR_ Ja.out) hb) <| an_ (Kd.R_below (pR_ Ma.out) hb) <| Aside0.mk (below_step (pB_ HB.out) hb)
             clear Ja Ma HB;obtain ⟨Ja,Ma,HB⟩:=n_;(try clear hb);(try clear hb2);(try clear hk);(try clear hi);refine hK.out _ _ ⟨((HB.out.cell (World.block_lt_of_cell? w _ hw127_0)).trans hw127_0),((HB.out.cell (World.block_lt_of_cell? w _ hw127_1)).trans hw127_1),((HB.out.cell (World.block_lt_of_cell? w _ hw127_2)).trans hw127_2),((HB.out.cell (World.block_lt_of_cell? w _ hw127_3)).trans hw127_3),((HB.out.cell (World.block_lt_of_cell? w _ hw127_4)).trans hw127_4),((HB.out.cell (World.block_lt_of_cell? w _ hw127_5)).trans hw127_5),((HB.out.cell (World.block_lt_of_cell? w _ hw132_0)).trans hw132_0),((HB.out.cell (World.block_lt_of_cell? w _ hw132_1)).trans hw132_1),((HB.out.cell (World.block_lt_of_cell? w _ hw132_2)).trans hw132_2),((HB.out.cell (World.block_lt_of_cell? w _ hw132_3)).trans hw132_3),((HB.out.cell (World.block_lt_of_cell? w _ hw132_4)).trans hw132_4),((HB.out.cell (World.block_lt_of_cell? w _ hw132_5)).trans hw132_5),HS12_⟩ (fun hHeld=>?_);clear hK K;refine nx_ (N:=some 39) ?_;refine px_ (i:=17) (N:=some 40) (bz 20 262143) (any_of HT_.out (by kernel_rfl)) ?_;refine px_ (i:=18) (N:=some 41) (bz 20 524287) (any_of HT_.out (by kernel_rfl)) ?_;refine px_ (i:=19) (N:=some 5) (bz 20 1048575) (any_of HT_.out (by kernel_rfl)) ?_;refine done_ (done_of HT_.out (by kernel_rfl)) ?_
             try go_wp2
             go_roundg k3
             case measure => have := HK1.out; have := HJ3.out; have := HK3.out; omega
             case rel=>exact ⟨(((rd Ka x4_1) == Ua)),(wrap64 (x6_3 + 1)),Z9,Z9,H',⟨by have:=HK1.out;have:=HJ3.out;have:=HK3.out;omega⟩,⟨pR_ (Kd.R_mono Ja.out (fun _ hk=>trivial))⟩,⟨pB_ HB.out⟩⟩
            ·rw [if_neg c12] at H
             exact absurd H (by simp)
           ·rw [if_neg c11] at H
            exact absurd H (by simp)
          ·rw [if_neg c9] at H
           exact absurd H (by simp)
         ·replace c8 := Bool.eq_false_iff.mpr c8
          subst c8; rw [if_neg (show ¬ (false = true) by decide)] at H; have H' := Aside0.mk H; clear H
          try go_wp2
          have n_ := an_ (Kd.R_drew Ja.out) <| Aside0.mk (below_drew1 HB.out)
          clear Ja HB;obtain ⟨Ja,HB⟩:=n_;refine start_ (n:=20) (S:=fun w'=>True) (ds:=[]) (bz 20 0) (by kernel_rfl) rfl (by kernel_rfl) trivial (fun hHeld=>?_);refine with_tabW spec_l19Mains.tab9 spec_l19Mains.bits9 (fun HT_ HW_=>?_);generalize wr.drew=w18 at Ja HB hHeld ⊢;refine px_ (i:=0) (N:=some 23) (bz 20 1) (any_of HT_.out (by kernel_rfl)) ?_;refine px_ (i:=1) (N:=some 24) (bz 20 3) (any_of HT_.out (by kernel_rfl)) ?_;refine ox_ (i:=2) (N:=some 25) (bz 20 7) (any_of HT_.out (by kernel_rfl)) ?_;refine ox_ (i:=3) (N:=some 26) (bz 20 15) (any_of HT_.out (by kernel_rfl)) ?_;refine ox_ (i:=4) (N:=some 27) (bz 20 31) (any_of HT_.out (by kernel_rfl)) ?_;refine ox_ (i:=5) (N:=some 28) (bz 20 63) (any_of HT_.out (by kernel_rfl)) ?_;refine ox_ (i:=6) (N:=some 29) (bz 20 127) (any_of HT_.out (by kernel_rfl)) ?_;refine ox_ (i:=7) (N:=some 30) (bz 20 255) (any_of HT_.out (by kernel_rfl)) ?_;refine ox_ (i:=8) (N:=some 31) (bz 20 511) (any_of HT_.out (by kernel_rfl)) ?_;refine ox_ (i:=9) (N:=some 32) (bz 20 1023) (any_of HT_.out (by kernel_rfl)) ?_;refine ox_ (i:=10) (N:=some 33) (bz 20 2047) (any_of HT_.out (by kernel_rfl)) ?_;refine ox_ (i:=11) (N:=some 34) (bz 20 4095) (any_of HT_.out (by kernel_rfl)) ?_;refine ox_ (i:=12) (N:=some 35) (bz 20 8191) (any_of HT_.out (by kernel_rfl)) ?_;refine ox_ (i:=13) (N:=some 36) (bz 20 16383) (any_of HT_.out (by kernel_rfl)) ?_;refine ox_ (i:=14) (N:=some 37) (bz 20 32767) (any_of HT_.out (by kernel_rfl)) ?_;refine ox_ (i:=15) (N:=some 38) (bz 20 65535) (any_of HT_.out (by kernel_rfl)) ?_;refine ox_ (i:=16) (N:=some 39) (bz 20 131071) (any_of HT_.out (by kernel_rfl)) ?_;refine ox_ (i:=17) (N:=some 40) (bz 20 262143) (any_of HT_.out (by kernel_rfl)) ?_;refine px_ (i:=18) (N:=some 41) (bz 20 524287) (any_of HT_.out (by kernel_rfl)) ?_;refine px_ (i:=19) (N:=some 5) (bz 20 1048575) (any_of HT_.out (by kernel_rfl)) ?_;refine done_ (done_of HT_.out (by kernel_rfl)) ?_
          try go_wp2
          go_roundg k3
          case measure => have := HK1.out; have := HJ3.out; have := HK3.out; omega
          case rel => exact ⟨(false), (wrap64 (x6_3 + 1)), Z9, Z9, H', ⟨by have := HK1.out; have := HJ3.out; have := HK3.out; omega⟩, ⟨pR_ Ja.out⟩, ⟨pB_ HB.out⟩⟩
        ·rw [if_neg c7] at H
         have c7b0 : decide (x6_3 < (l0.length : Int)) = false := decide_eq_false c7; clear c7
         by_cases c19 : x5_3 = true
         ·subst c19
          rw [if_pos rfl] at H
          by_cases c20 : x3_1.length < 17592186044416
          ·rw [if_pos c20] at H
           have LMc20 := Aside0.mk c20; clear c20; obtain ⟨y134, hy134⟩ : ∃ y_ : List Int, y_ = (x3_1 ++ [x4_1]) := ⟨_, rfl⟩
           replace H:(spec_l19Mains.l0 k3 l0 y134 (wrap64 (x4_1 + 1)))=some r:=by first|(rw [hy134];with_reducible exact H)|(have H2_:=(Option.bind_some _ _).symm.trans H;rw [hy134];with_reducible exact H2_)|(have H2_:=(Option.bind_some _ _).symm.trans H;with_reducible exact H2_)|with_reducible exact H|(rw [hy134];exact H)|exact H
           have Ny134 := Aside0.mk hy134; clear hy134; have H' := Aside0.mk H; clear H
           go_wp2_with (first|((with_reducible refine gate_builtin (b:=.append) (xs:=#[.tmp 43,.tmp 45]) rfl ?_);(try (refine gate_guard (by rfl) ?_;dsimp only));at_builtin;refine Kd.R_append (Kd.int .i64) (w0:=w) w.heap.size rfl (.tmp 43) (.tmp 45) 24 3 (.int .i64 0) 8 rfl Try.underlying24 info3 rfl (by decide) (by omega) u3 x3_1 x4_1 [.int .i64 x4_1] (fun _=>True) (fun _=>False) rfl rfl ?aP (fun _ hk=>hk.elim) ?aF ?aO ?aB ?aS ?aL ?_;(case aP=>exact rfl);(case aB=>exact (pB_ HB.out));(case aF=>exact (fun _ _=>trivial));(case aO=>exact (pR_ Ja.out));(case aS=>exact (below_size (pB_ HB.out)));(case aL=>have:=LMc20.out;omega);intro Xb w21 ho hb hg hat;rw [← Ny134.out] at ho;have n_:=an_ (hb)<|Aside0.mk (ho);clear HB Ja;obtain ⟨HB,Jb⟩:=n_;clear ho hb hg hat))
           go_roundg k3
           case measure => have := HK1.out; have := HJ3.out; have := HK3.out; omega
           case rel => exact ⟨(y134), (wrap64 (x4_1 + 1)), Z9, H', ⟨by have := HK1.out; have := HJ3.out; have := HK3.out; omega⟩, ⟨pR_ Jb.out⟩, ⟨pB_ HB.out⟩⟩
          ·rw [if_neg c20] at H
           exact absurd H (by simp)
         ·replace c19 := Bool.eq_false_iff.mpr c19
          subst c19; rw [if_neg (show ¬ (false = true) by decide)] at H; have H' := Aside0.mk H; clear H
          go_wp2
          go_roundg k3
          case measure => have := HK1.out; have := HJ3.out; have := HK3.out; omega
          case rel => exact ⟨(x3_1), (wrap64 (x4_1 + 1)), Z9, H', ⟨by have := HK1.out; have := HJ3.out; have := HK3.out; omega⟩, ⟨pR_ Ja.out⟩, ⟨pB_ HB.out⟩⟩
     ·replace c6 := Bool.eq_false_iff.mpr c6
      subst c6; rw [if_neg (show ¬ (false = true) by decide)] at H; obtain rfl := Option.some.inj H
      go_wp2
      go_ret;exact ⟨_,by first|rfl|(simp [errW_none,errW_some] <;> rfl)|(simp [*,errW_none,errW_some] <;> rfl),by (with_reducible repeat (first|apply Kd.R_alloc|apply Kd.R_drewN|apply Kd.R_drew));exact Ja.out,pB_ HB.out⟩

/-! ### spec_l19Mine: function 16 -/
def spec_l19Mine.l0 : Nat → List (S43) → Int → Int → List (S43) → Int → Option ((List (S43)))
 | 0, _, _, _, _, _ => none
 | k + 1,x0,x1,x3,x9,x10=>if x10 < x3 then (if 0≤x10 then (if x10 < (x0.length:Int) then (if ((rd_T43 x0 x10).f0)=x1 then (if x9.length < 2199023255552 then (spec_l19Mine.l0 k x0 x1 x3 (x9 ++ [(⟨(rd_T43 x0 x10).f0,(rd_T43 x0 x10).f1,(⟨(rd_T43 x0 x10).f2.f0,(rd_T43 x0 x10).f2.f1,(rd_T43 x0 x10).f2.f2⟩:S41),(rd_T43 x0 x10).f3⟩:S43)]) (wrap64 (x10 + 1))) else (none)) else (spec_l19Mine.l0 k x0 x1 x3 x9 (wrap64 (x10 + 1)))) else (none)) else (none)) else (some x9)
def spec_l19Mine.f (k : Nat) (l0 : List (S43)) (a1 : Int) (a2 : Int) (a3 : Int) : Option ((List (S43))) := spec_l19Mine.l0 k l0 a1 a3 (([] : List (S43))) a2
set_option maxHeartbeats 8000000 in
set_option maxRecDepth 100000 in
theorem spec_l19Mine.calls (k : Nat) (P0_ : Nat → Prop) (A0 : Option Addr) (c0 : Nat) (l0 : List (S43)) (a1 : Int) (a2 : Int) (a3 : Int) (r : List (S43)) (w : World) (hs0 : Kd.V k43 43 w w.heap.size (fun k_ => P0_ k_) (.slice A0 l0.length c0) l0) (h : spec_l19Mine.f k l0 a1 a2 a3 = some r) :
  Calls Try.prog 16 #[.slice A0 l0.length c0,.int .i64 a1,.int .i64 a2,.int .i64 a3] w fun e w'=>∃ v0_:Value,e=.returned (v0_)∧Kd.N k43 43 w' w.heap.size (fun k_=>(P0_ k_ ∨ w.heap.size≤k_)) v0_ r∧Below w.heap.size w w':=by
 have hu43 := Try.underlying43
 have HO0 := Aside0.mk (show Kd.V k43 43 w w.heap.size (fun k_ => (P0_ k_ ∨ w.heap.size ≤ k_)) (.slice A0 l0.length c0) l0 from Kd.V_mono hs0 (fun k_ hk => .inl hk))
 have HB := Aside0.mk (Below.refl w.heap.size w)
 have H : (spec_l19Mine.l0 k l0 a1 a3 (([] : List (S43))) a2) = some r := h
 clear h
 obtain ⟨y137, hy137⟩ : ∃ y_ : List (S43), y_ = (([] : List (S43))) := ⟨_, rfl⟩
 replace H:(spec_l19Mine.l0 k l0 a1 a3 y137 a2)=some r:=by first|(rw [hy137];with_reducible exact H)|(have H2_:=(Option.bind_some _ _).symm.trans H;rw [hy137];with_reducible exact H2_)|(have H2_:=(Option.bind_some _ _).symm.trans H;with_reducible exact H2_)|with_reducible exact H|(rw [hy137];exact H)|exact H
 have Ny137 := Aside0.mk hy137
 clear hy137
 have H' := Aside0.mk H
 clear H
 go_enter Try.func16, Try.ntmps16
 go_wp2_with (first|((with_reducible refine gate_dst (N:=11) rfl ?_);refine Kd.N_lit k43 _ 43 ?hg (N':=11) ?hd (xs:=([]:List (S43))) (inner:=[]) (ok:=(fun k_=>(P0_ k_ ∨ w.heap.size≤k_))) (okp:=(fun k_=>(P0_ k_ ∨ w.heap.size≤k_))) ?hr ?hp (fun _ hk=>hk) ((show ∀ k_,w.heap.size≤k_ → (fun k_=>(P0_ k_ ∨ w.heap.size≤k_)) k_ from fun k_ hk=>(.inr (Nat.le_trans (below_size (pB_ HB.out)) hk))) _ (Nat.le_refl _)) (Below.refl _ _) (Nat.le_refl _) (by simp) ?_;(case hd=>rfl);(case hg=>rfl);(case hr=>first|(go_simp;done)|(go_simp;rfl));(case hp=>exact (Reps.none _ _));intro v138 w5 ho6 hb hg_ hnew_;clear hg_ hnew_;(first|rw [← Ny137.out] at ho6|(simp only [Int.reduceToNat] at ho6;rw [← Ny137.out] at ho6));have n_:=an_ (Kd.V_elder' (pV_ HO0.out) (Kd.N_base ho6) hb)<|an_ (Kd.N_lower ho6 (below_size (pB_ HB.out)))<|Aside0.mk (below_step (pB_ HB.out) hb);clear HO0 HB;obtain ⟨HO0,HO139,HB⟩:=n_;clear hb ho6))
 go_loopg [9,10] k (fun kq v9 v10 w'=>∃ (x9_1:List (S43)) (x10_1:Int),v10=.int .i64 x10_1∧Aside0 (spec_l19Mine.l0 kq l0 a1 a3 x9_1 x10_1=some r)∧Aside0 (kq≤k)∧Aside0 (Kd.V k43 43 w' w.heap.size (fun k_=>(P0_ k_ ∨ w.heap.size≤k_)∧some k_≠(v9:Value).ownBlock) (.slice A0 l0.length c0) l0)∧Aside0 (Kd.N k43 43 w' w.heap.size (fun k_=>(P0_ k_ ∨ w.heap.size≤k_)) v9 x9_1)∧Aside0 (Below w.heap.size w w'))
 case atStart => exact ⟨(y137), (a2), Z9, H', ⟨Nat.le_refl _⟩, ⟨pV_ HO0.out⟩, ⟨pN_ HO139.out⟩, ⟨pB_ HB.out⟩⟩
 case round =>
  clear H'
  try clear c1
  try clear p2
  obtain ⟨x9_1, x10_1, rfl, HA, HK1, HO_0, HO_9, HB⟩ := hrel
  cases gk with
  | zero => exact absurd HA.out (by simp [spec_l19Mine.l0])
  | succ k1 =>
   have H := HA.out; clear HA; simp only [spec_l19Mine.l0] at H
   by_cases c7 : x10_1 < a3
   ·rw [if_pos c7] at H
    have c7b0 : decide (x10_1 < a3) = true := decide_eq_true c7; clear c7
    by_cases c8 : 0 ≤ x10_1
    ·rw [if_pos c8] at H
     have c8b0 : decide (0 ≤ x10_1) = true := decide_eq_true c8; clear c8
     by_cases c9 : x10_1 < (l0.length : Int)
     ·rw [if_pos c9] at H
      have c9b0:decide (x10_1 < (l0.length:Int))=true:=decide_eq_true c9;clear c9;have HU10:=Aside0.mk H;clear H;have p140:0≤(x10_1:Int):=of_decide_eq_true Z8;have q140:x10_1 < (l0.length:Int):=of_decide_eq_true Z8;obtain ⟨ad140,A140_5,c140_5,e140,hx140_0,hx140_1,hx140_2,hx140_3,hx140_4,hx140_5,hl140_5,hi140_5⟩:=at_T43 (Kd.V_reads' HO_0.out).2.2 x10_1 p140 q140;cases e140;obtain ⟨ce140,hce140,hMe140,hcc140⟩:=Kd.V_get HO_0.out z43 x10_1 p140 (by first|exact q140|exact of_decide_eq_true Z8|(have e_:=(Kd.V_reads' HO_0.out).1;omega));obtain ⟨ua140_5,uc140_5,rfl,ul140_5,ge140_5⟩:=k43_openF hMe140;have hv140_5:=hcc140 5 _ rfl;rw [add_field _ _ 5 (by omega)] at hv140_5;replace hv140_5:=Option.some.inj (hv140_5.symm.trans hx140_5)
      injection hv140_5 with hva_ hvn_ hvc_
      rw [hva_] at ge140_5;rw [hvc_] at ul140_5;have HL140_5:=Aside0.mk (show Kd.V (Kd.int .i64) 3 _ w.heap.size _ _ ((rd_T43 l0 x10_1).f3) from Kd.V_mk ul140_5 ge140_5);clear hva_ hvn_ hvc_ ge140_5 ul140_5;clear hcc140 hce140;have HR140_5:=Aside0.mk hi140_5;have HC140_5:=Aside0.mk hl140_5;clear hi140_5 hl140_5;replace p140:=eq_true p140;replace q140:=eq_true q140
      go_upto_if 24 with (fail)
      have H := HU10.out; clear HU10
      by_cases c11 : ((rd_T43 l0 x10_1).f0) = a1
      ·rw [if_pos c11] at H
       have c11b0:(((rd_T43 l0 x10_1).f0) == a1)=true:=beq_iff_eq.mpr c11;have c11b1:(((rd_T43 l0 x10_1).f0) != a1)=false:=bne_eq_false_iff_eq.mpr c11;clear c11;(first|rw [c11b0]|(simp only [i64_w,i32_w];rw [c11b0])|(have cz_:=c11b0;simp only [bne,gt_iff_lt,Int.natCast_pos] at cz_;first|rw [cz_]|(simp only [i64_w,i32_w];rw [cz_]))|skip)
       by_cases c12 : x9_1.length < 2199023255552
       ·rw [if_pos c12] at H
        have LMc12:=Aside0.mk c12;clear c12;obtain ⟨y142,hy142⟩:∃ y_:List (S43),y_=(x9_1 ++ [(⟨(rd_T43 l0 x10_1).f0,(rd_T43 l0 x10_1).f1,(⟨(rd_T43 l0 x10_1).f2.f0,(rd_T43 l0 x10_1).f2.f1,(rd_T43 l0 x10_1).f2.f2⟩:S41),(rd_T43 l0 x10_1).f3⟩:S43)]):=⟨_,rfl⟩
        replace H:(spec_l19Mine.l0 k1 l0 a1 a3 y142 (wrap64 (x10_1 + 1)))=some r:=by first|(rw [hy142];with_reducible exact H)|(have H2_:=(Option.bind_some _ _).symm.trans H;rw [hy142];with_reducible exact H2_)|(have H2_:=(Option.bind_some _ _).symm.trans H;with_reducible exact H2_)|with_reducible exact H|(rw [hy142];exact H)|exact H
        have Ny142:=Aside0.mk hy142;clear hy142;have H':=Aside0.mk H;clear H;have p141:0≤(x10_1:Int):=of_decide_eq_true Z8;have q141:x10_1 < (l0.length:Int):=of_decide_eq_true Z8;obtain ⟨ad141,A141_5,c141_5,e141,hx141_0,hx141_1,hx141_2,hx141_3,hx141_4,hx141_5,hl141_5,hi141_5⟩:=at_T43 (Kd.V_reads' HO_0.out).2.2 x10_1 p141 q141;obtain rfl:ad140=ad141:=(by injection e141);obtain ⟨ce141,hce141,hMe141,hcc141⟩:=Kd.V_get HO_0.out z43 x10_1 p141 (by first|exact q141|exact of_decide_eq_true Z8|(have e_:=(Kd.V_reads' HO_0.out).1;omega));obtain ⟨ua141_5,uc141_5,rfl,ul141_5,ge141_5⟩:=k43_openF hMe141;have hv141_5:=hcc141 5 _ rfl;rw [add_field _ _ 5 (by omega)] at hv141_5;replace hv141_5:=Option.some.inj (hv141_5.symm.trans hx141_5)
        injection hv141_5 with hva_ hvn_ hvc_
        rw [hva_] at ge141_5;rw [hvc_] at ul141_5;have HL141_5:=Aside0.mk (show Kd.V (Kd.int .i64) 3 _ w.heap.size _ _ ((rd_T43 l0 x10_1).f3) from Kd.V_mk ul141_5 ge141_5);clear hva_ hvn_ hvc_ ge141_5 ul141_5;clear hcc141 hce141;have HR141_5:=Aside0.mk hi141_5;have HC141_5:=Aside0.mk hl141_5;clear hi141_5 hl141_5;replace p141:=eq_true p141;replace q141:=eq_true q141;have ea_:=Option.some.inj (hx140_5.symm.trans hx141_5)
        injection ea_ with ea_ en_ ec_
        subst ea_; subst ec_; clear en_
        go_wp2_with (first|((with_reducible refine gate_builtin (b:=.append) (xs:=#[.tmp 25,.tmp 30]) rfl ?_);at_builtin;refine Kd.N_append k43 (w0:=w) w.heap.size rfl (.tmp 25) (.tmp 30) 26 43 (.agg #[(.int .i64 0),(.int .i64 0),(.int .i64 0),(.int .i64 0),(.int .i64 0),(.slice none 0 0)]) 64 rfl Try.underlying26 info43 rfl (by decide) (by omega) u9 x9_1 (⟨(rd_T43 l0 x10_1).f0,(rd_T43 l0 x10_1).f1,(⟨(rd_T43 l0 x10_1).f2.f0,(rd_T43 l0 x10_1).f2.f1,(rd_T43 l0 x10_1).f2.f2⟩:S41),(rd_T43 l0 x10_1).f3⟩:S43) [.int .i64 ((rd_T43 l0 x10_1).f0),.int .i64 ((rd_T43 l0 x10_1).f1),.int .i64 ((rd_T43 l0 x10_1).f2.f0),.int .i64 ((rd_T43 l0 x10_1).f2.f1),.int .i64 ((rd_T43 l0 x10_1).f2.f2),.slice A140_5 ((rd_T43 l0 x10_1).f3).length c140_5] (fun k_=>(P0_ k_ ∨ w.heap.size≤k_)) (fun k_=>((fun k_=>(P0_ k_ ∨ w.heap.size≤k_))) k_∧some k_≠(u9:Value).ownBlock) rfl rfl ?aP (fun _ hk=>hk) ?aF ?aO ?aB ?aS ?aL ?_;(case aP=>exact (k43_mkF _ _ (⟨(rd_T43 l0 x10_1).f0,(rd_T43 l0 x10_1).f1,(⟨(rd_T43 l0 x10_1).f2.f0,(rd_T43 l0 x10_1).f2.f1,(rd_T43 l0 x10_1).f2.f2⟩:S41),(rd_T43 l0 x10_1).f3⟩:S43) (Kd.V_reads' (Kd.V_mono (ok':=(fun k_=>((fun k_=>(P0_ k_ ∨ w.heap.size≤k_))) k_∧some k_≠(u9:Value).ownBlock)) (HL141_5.out) (fun k_ hk=>⟨hk.1,hk.2⟩))).2.1 (by (with_reducible repeat (first|apply Kd.F_alloc|apply Kd.F_drewN|apply Kd.F_drew));exact Kd.V_F (Kd.V_mono (ok':=(fun k_=>((fun k_=>(P0_ k_ ∨ w.heap.size≤k_))) k_∧some k_≠(u9:Value).ownBlock)) (HL141_5.out) (fun k_ hk=>⟨hk.1,hk.2⟩)))));(case aB=>exact (pB_ HB.out));(case aF=>exact (fun k_ hk=>(.inr (Nat.le_trans (below_size (pB_ HB.out)) hk))));(case aO=>exact (pN_ HO_9.out));(case aS=>exact (below_size (pB_ HB.out)));(case aL=>have:=LMc12.out;omega);intro v143 w13 ho hb hg hat;rw [← Ny142.out] at ho;have n_:=an_ (Kd.V_afterv (ok:=(fun k_=>(P0_ k_ ∨ w.heap.size≤k_))) (pV_ HO_0.out) hg hat)<|an_ (Kd.V_afterv (ok:=(fun k_=>(P0_ k_ ∨ w.heap.size≤k_))) (pV_ HL140_5.out) hg hat)<|an_ (Kd.V_afterv (ok:=(fun k_=>(P0_ k_ ∨ w.heap.size≤k_))) (pV_ HL141_5.out) hg hat)<|an_ (hb)<|Aside0.mk (ho);clear HO_0 HL140_5 HL141_5 HB HO_9;obtain ⟨HO_0,HL140_5,HL141_5,HB,HO144⟩:=n_;clear ho hb hg hat))
        go_roundg k1
        case measure => have := HK1.out; omega
        case rel => exact ⟨(y142), (wrap64 (x10_1 + 1)), Z9, H', ⟨by have := HK1.out; omega⟩, ⟨pV_ HO_0.out⟩, ⟨pN_ HO144.out⟩, ⟨pB_ HB.out⟩⟩
       ·rw [if_neg c12] at H
        exact absurd H (by simp)
      ·rw [if_neg c11] at H
       have c11b0:(((rd_T43 l0 x10_1).f0) == a1)=false:=beq_eq_false_iff_ne.mpr c11;have c11b1:(((rd_T43 l0 x10_1).f0) != a1)=true:=bne_iff_ne.mpr c11;(first|rw [c11b0]|(simp only [i64_w,i32_w];rw [c11b0])|(have cz_:=c11b0;simp only [bne,gt_iff_lt,Int.natCast_pos] at cz_;first|rw [cz_]|(simp only [i64_w,i32_w];rw [cz_]))|skip);have H':=Aside0.mk H;clear H
       go_wp2
       go_roundg k1
       case measure => have := HK1.out; omega
       case rel => exact ⟨(x9_1), (wrap64 (x10_1 + 1)), Z9, H', ⟨by have := HK1.out; omega⟩, ⟨pV_ HO_0.out⟩, ⟨pN_ HO_9.out⟩, ⟨pB_ HB.out⟩⟩
     ·rw [if_neg c9] at H
      exact absurd H (by simp)
    ·rw [if_neg c8] at H
     exact absurd H (by simp)
   ·rw [if_neg c7] at H
    have c7b0 : decide (x10_1 < a3) = false := decide_eq_false c7; clear c7; obtain rfl := Option.some.inj H
    go_wp2
    go_ret;exact ⟨_,by first|rfl|(simp [errW_none,errW_some] <;> rfl)|(simp [*,errW_none,errW_some] <;> rfl),by (with_reducible repeat (first|apply Kd.N_alloc|apply Kd.N_drewN|apply Kd.N_drew));exact HO_9.out,pB_ HB.out⟩

/-! ### spec_Mains: function 5 -/
def spec_Mains.f (k : Nat) (l0 : List (S43)) (a1 : Int) (a2 : Int) (a3 : Int) : Option (List Int) := (spec_l19Span.f k l0 a2 a3).bind fun t145 => (if t145 = true then ((spec_l19Mine.f k l0 a1 a2 a3).bind fun t146 => ((spec_l19Mains.f k t146).bind fun t149 => (some t149))) else (some ([] : List Int)))
set_option maxHeartbeats 8000000 in
set_option maxRecDepth 100000 in
theorem spec_Mains.calls (k : Nat) (A0 : Option Addr) (c0 : Nat) (l0 : List (S43)) (a1 : Int) (a2 : Int) (a3 : Int) (r : List Int) (w : World) (hr0 : Kd.C k43 w A0 l0.length l0) (hc0 : l0.length ≤ c0) (h : spec_Mains.f k l0 a1 a2 a3 = some r) :
  Calls Try.prog 5 #[.slice A0 l0.length c0,.int .i64 a1,.int .i64 a2,.int .i64 a3] w fun e w'=>∃ v0_:Value,e=.returned (v0_)∧Kd.R (Kd.int .i64) 3 w' w.heap.size (fun _=>True) v0_ r∧Below w.heap.size w w':=by
 have HR0 := Aside0.mk hr0
 have HC0 := Aside0.mk hc0
 clear hr0 hc0
 have HB := Aside0.mk (Below.refl w.heap.size w)
 have H:((spec_l19Span.f k l0 a2 a3).bind fun t145=>(if t145=true then ((spec_l19Mine.f k l0 a1 a2 a3).bind fun t146=>((spec_l19Mains.f k t146).bind fun t149=>(some t149))) else (some ([]:List Int))))=some r:=h
 clear h
 obtain ⟨t145, A50, H⟩ := Option.bind_eq_some_iff.mp H
 (try dsimp only at H)
 have A5 := Aside0.mk A50
 clear A50
 have HU6 := Aside0.mk H
 clear H
 go_enter Try.func5, Try.ntmps5
 go_upto_if 13 with (first|((with_reducible refine gate_callee (f:=14) rfl ?_);refine goesL_ (some 12) rfl rfl Try.func14 (by kernel_rfl) rfl #[.slice A0 l0.length c0,.int .i64 a2,.int .i64 a3] rfl Z2 ?_;(with_reducible refine (spec_l19Span.calls k _ _ l0 a2 a3 t145 _ ?side1 ?side2 A5.out).mono ?_);(case side1=>exact pC_ HR0.out);(case side2=>exact HC0.out);rintro e w7 ⟨rfl,hb⟩;refine ⟨_,rfl,?_⟩;have n0_:=Aside0.mk (below_step (pB_ HB.out) hb);clear HB;have HB:=n0_;clear n0_;(try clear hb);(try clear hb2);(try clear hk);(try clear hi)))
 have H := HU6.out
 clear HU6
 by_cases c8 : t145 = true
 ·subst c8
  rw [if_pos rfl] at H;obtain ⟨t146,A90,H⟩:=Option.bind_eq_some_iff.mp H;(try dsimp only at H);have A9:=Aside0.mk A90;clear A90;obtain ⟨t149,A100,H⟩:=Option.bind_eq_some_iff.mp H;(try dsimp only at H);have A10:=Aside0.mk A100;clear A100;obtain rfl:=Option.some.inj H
  go_wp2_with (first|((with_reducible refine gate_callee (f:=16) rfl ?_);refine goesL_ (some 18) rfl rfl Try.func16 (by kernel_rfl) rfl #[.slice A0 l0.length c0,.int .i64 a1,.int .i64 a2,.int .i64 a3] rfl Z2 ?_;(with_reducible refine (spec_l19Mine.calls k (fun k_=>k_ < w.heap.size) _ _ l0 a1 a2 a3 t146 _ ?side1 A9.out).mono ?_);(case side1=>exact Kd.V_mk HC0.out (Kd.F_below (Kd.C_F k43_heap HR0.out) (pB_ HB.out)));rintro e w11 ⟨v147,rfl,ho0,hb⟩;refine ⟨_,rfl,?_⟩;have n_:=an_ (Kd.N_lower (Kd.N_mono (ok':=fun k_=>True) ho0 (fun k_ hk_=>trivial)) (below_size (pB_ HB.out)))<|Aside0.mk (below_step (pB_ HB.out) hb);clear HB;obtain ⟨HO148,HB⟩:=n_;(try clear hb);(try clear hb2);(try clear hk);(try clear hi);(try clear ho0);obtain ⟨Ao12,co12,eo12⟩:=Kd.N_slice HO148.out;subst eo12)|((with_reducible refine gate_callee (f:=15) rfl ?_);refine goesL_ (some 19) rfl rfl Try.func15 (by kernel_rfl) rfl #[.slice Ao12 t146.length co12] rfl Z2 ?_;(with_reducible refine (spec_l19Mains.calls k _ _ t146 t149 _ ?side1 ?side2 A10.out).mono ?_);(case side1=>exact pC_ ((Kd.N_reads' HO148.out).2.2));(case side2=>exact (Kd.N_reads' HO148.out).2.1);rintro e w13 ⟨v150,rfl,ho0,hb⟩;refine ⟨_,rfl,?_⟩;have n_:=an_ (Kd.N_elder' (pN_ HO148.out) (Kd.R_base ho0) hb)<|an_ (Kd.R_lower ho0 (below_size (pB_ HB.out)))<|Aside0.mk (below_step (pB_ HB.out) hb);clear HO148 HB;obtain ⟨HO148,HO151,HB⟩:=n_;(try clear hb);(try clear hb2);(try clear hk);(try clear hi);(try clear ho0)))
  go_ret;exact ⟨_,by first|rfl|(simp [errW_none,errW_some] <;> rfl)|(simp [*,errW_none,errW_some] <;> rfl),by (with_reducible repeat (first|apply Kd.R_alloc|apply Kd.R_drewN|apply Kd.R_drew));exact HO151.out,pB_ HB.out⟩
 ·replace c8 := Bool.eq_false_iff.mpr c8
  subst c8; rw [if_neg (show ¬ (false = true) by decide)] at H; obtain rfl := Option.some.inj H
  go_wp2
  go_ret;exact ⟨_,by first|rfl|(simp [errW_none,errW_some] <;> rfl)|(simp [*,errW_none,errW_some] <;> rfl),by first|exact Kd.R_nil _ _ _ _ _|exact Kd.N_nil _ _ _ _ _|exact Kd.V_nil _ _ _ _ _|exact Kd.Q_nil _ _ _ _ _|exact Kd.S_nil _ _ _ _ _,pB_ HB.out⟩

/-! ### laws_toVec: function 26 -/
def laws_toVec.f (a0_0 : Int) (a0_1 : Int) (a0_2 : Int) : Option (Int × Int × Int) := some (a0_0, a0_1, a0_2)
set_option maxHeartbeats 8000000 in
set_option maxRecDepth 100000 in
theorem laws_toVec.calls (a0_0 : Int) (a0_1 : Int) (a0_2 : Int) (r1 : Int) (r2 : Int) (r3 : Int) (w : World) (h : laws_toVec.f a0_0 a0_1 a0_2 = some (r1, r2, r3)) :
  Calls Try.prog 26 #[.agg #[.int .i64 a0_0, .int .i64 a0_1, .int .i64 a0_2]] w fun e w' => e = .returned (.agg #[.int .i64 r1, .int .i64 r2, .int .i64 r3]) ∧ Below w.heap.size w w' := by
 have hu35 := Try.underlying35
 have hu41 := Try.underlying41
 have HB := Aside0.mk (Below.refl w.heap.size w)
 have H : (some (a0_0, a0_1, a0_2)) = some (r1, r2, r3) := h
 clear h
 simp only [Option.some.injEq, Prod.mk.injEq] at H
 obtain ⟨rfl, rfl, rfl⟩ := H
 go_enter Try.func26, Try.ntmps26
 go_wp2_with (first|((with_reducible refine gate_dst (N:=1) rfl ?_);refine box_event ?hg (N:=1) ?hd (cs:=#[.int .i64 a0_0,.int .i64 a0_1,.int .i64 a0_2]) (t:=35) ?hr ?_;(case hd=>rfl);(case hg=>rfl);(case hr=>first|(go_simp;done)|(go_simp;rfl));intro gb152 hg w2 hbox hb;have n_:=an_ (below_step (pB_ HB.out) hb)<|an_ (hbox)<|an_ ((by rw [hg];exact (below_size (pB_ HB.out)):w.heap.size≤gb152))<|Aside0.mk ((by rw [hg];exact (below_size (pB_ HB.out)):w.heap.size≤gb152));clear HB;obtain ⟨HB,BK152,GW152,GE152⟩:=n_;clear hb hbox hg)|((with_reducible refine gate_dst (N:=2) rfl ?_);refine box_event ?hg (N:=2) ?hd (cs:=#[.int .i64 0,.int .i64 0,.int .i64 0]) (t:=41) ?hr ?_;(case hd=>rfl);(case hg=>rfl);(case hr=>first|(go_simp;done)|(go_simp;rfl));intro gb153 hg w3 hbox hb;have n_:=an_ (blk_below (pk_ BK152.out) hb)<|an_ (below_step (pB_ HB.out) hb)<|an_ (hbox)<|an_ ((by rw [hg];exact (below_size (pB_ HB.out)):w.heap.size≤gb153))<|an_ ((by rw [hg];exact (below_size (pB_ HB.out)):w.heap.size≤gb153))<|an_ ((by rw [hg];exact Nat.ne_of_lt (blk_lt (pk_ BK152.out)):gb152≠gb153))<|Aside0.mk ((by rw [hg];exact Nat.ne_of_gt (blk_lt (pk_ BK152.out)):gb153≠gb152));clear BK152 HB;obtain ⟨BK152,HB,BK153,GW153,GE153,NB152_153,NB153_152⟩:=n_;clear hb hbox hg)|((with_reducible refine gate_dst (N:=3) rfl ?_);refine box_event ?hg (N:=3) ?hd (cs:=#[.int .i64 0,.int .i64 0,.int .i64 0]) (t:=41) ?hr ?_;(case hd=>rfl);(case hg=>rfl);(case hr=>first|(go_simp;done)|(go_simp;rfl));intro gb154 hg w4 hbox hb;have n_:=an_ (blk_below (pk_ BK152.out) hb)<|an_ (blk_below (pk_ BK153.out) hb)<|an_ (below_step (pB_ HB.out) hb)<|an_ (hbox)<|an_ ((by rw [hg];exact (below_size (pB_ HB.out)):w.heap.size≤gb154))<|an_ ((by rw [hg];exact (below_size (pB_ HB.out)):w.heap.size≤gb154))<|an_ ((by rw [hg];exact Nat.ne_of_lt (blk_lt (pk_ BK152.out)):gb152≠gb154))<|an_ ((by rw [hg];exact Nat.ne_of_gt (blk_lt (pk_ BK152.out)):gb154≠gb152))<|an_ ((by rw [hg];exact Nat.ne_of_lt (blk_lt (pk_ BK153.out)):gb153≠gb154))<|Aside0.mk ((by rw [hg];exact Nat.ne_of_gt (blk_lt (pk_ BK153.out)):gb154≠gb153));clear BK152 BK153 HB;obtain ⟨BK152,BK153,HB,BK154,GW154,GE154,NB152_154,NB154_152,NB153_154,NB154_153⟩:=n_;clear hb hbox hg;(try have hnb5:=NB152_153.out);(try have hnc5:=NB153_152.out);(try have hnb6:=NB152_154.out);(try have hnc6:=NB154_152.out);have hcz7_0:w4.cell? ⟨gb152,0,none⟩=some (.int .i64 a0_0):=(blk_cell BK152.out 0).trans rfl;have hcz7_1:w4.cell? ⟨gb152,1,none⟩=some (.int .i64 a0_1):=(blk_cell BK152.out 1).trans rfl;have hcz7_2:w4.cell? ⟨gb152,2,none⟩=some (.int .i64 a0_2):=(blk_cell BK152.out 2).trans rfl;have hfz7_0:=blk_frozen BK152.out 0;have hfz7_1:=blk_frozen BK152.out 1;have hfz7_2:=blk_frozen BK152.out 2;(try have hnb8:=NB154_153.out);(try have hnc8:=NB153_154.out);have hcz9_0:w4.cell? ⟨gb154,0,none⟩=some (.int .i64 0):=(blk_cell BK154.out 0).trans rfl;have hcz9_1:w4.cell? ⟨gb154,1,none⟩=some (.int .i64 0):=(blk_cell BK154.out 1).trans rfl;have hcz9_2:w4.cell? ⟨gb154,2,none⟩=some (.int .i64 0):=(blk_cell BK154.out 2).trans rfl;have hfz9_0:=blk_frozen BK154.out 0;have hfz9_1:=blk_frozen BK154.out 1;have hfz9_2:=blk_frozen BK154.out 2;have hcz10_0:w4.cell? ⟨gb153,0,none⟩=some (.int .i64 0):=(blk_cell BK153.out 0).trans rfl;have hcz10_1:w4.cell? ⟨gb153,1,none⟩=some (.int .i64 0):=(blk_cell BK153.out 1).trans rfl;have hcz10_2:w4.cell? ⟨gb153,2,none⟩=some (.int .i64 0):=(blk_cell BK153.out 2).trans rfl;have hfz10_0:=blk_frozen BK153.out 0;have hfz10_1:=blk_frozen BK153.out 1;have hfz10_2:=blk_frozen BK153.out 2))
 refine bodyPost_ret (results_cell_row rfl _ _ gb153 41 #[.int .i64 a0_0,.int .i64 a0_1,.int .i64 a0_2] (0,0) _ rfl (by refine pk_ ?_;refine blk_put (cs:=#[.int .i64 a0_0,.int .i64 a0_1,.int .i64 0]) ?_ 2 _ rfl;refine pk_ ?_;refine blk_put (cs:=#[.int .i64 a0_0,.int .i64 0,.int .i64 0]) ?_ 1 _ rfl;refine pk_ ?_;refine blk_put (cs:=#[.int .i64 0,.int .i64 0,.int .i64 0]) ?_ 0 _ rfl;refine pk_ ?_;refine blk_far ?_ NB153_154.out _;refine pk_ ?_;refine blk_far ?_ NB153_154.out _;refine pk_ ?_;refine blk_far ?_ NB153_154.out _;refine pk_ ?_;exact BK153.out) Try.underlying41 rfl (by kernel_rfl)) rfl ?_
 exact ⟨by first | rfl | (simp [errW_none, errW_some] <;> rfl) | (simp [*, errW_none, errW_some] <;> rfl), pB_ HB.out⟩

/-! ### laws_toIntS: function 27 -/
def laws_toIntS.l0 : Nat → List Int → List Int → Int → Option (List Int)
 | 0, _, _, _ => none
 | k + 1,x0,x3,x4=>if x4 < (x0.length:Int) then (if 0≤x4 then (if x4 < (x3.length:Int) then (laws_toIntS.l0 k x0 (x3.set (x4:Int).toNat (rd x0 x4)) (wrap64 (x4 + 1))) else (none)) else (none)) else (some x3)
def laws_toIntS.f (k : Nat) (l0 : List Int) : Option (List Int) := if 0 ≤ (l0.length : Int) then (if ((l0.length : Int) : Int).toNat ≤ 35184372088832 then (laws_toIntS.l0 k l0 (List.replicate ((l0.length : Int) : Int).toNat 0) 0) else (none)) else (none)
set_option maxHeartbeats 8000000 in
set_option maxRecDepth 100000 in
theorem laws_toIntS.calls (k : Nat) (A0 : Option Addr) (c0 : Nat) (l0 : List Int) (r : List Int) (w : World) (hr0 : Kd.C (Kd.int .i64) w A0 l0.length l0) (hc0 : l0.length ≤ c0) (h : laws_toIntS.f k l0 = some r) :
  Calls Try.prog 27 #[.slice A0 l0.length c0] w fun e w' => ∃ v0_ : Value, e = .returned (v0_) ∧ Kd.R (Kd.int .i64) 3 w' w.heap.size (fun _ => True) v0_ r ∧ Below w.heap.size w w' := by
 have HR0 := Aside0.mk hr0
 have HC0 := Aside0.mk hc0
 clear hr0 hc0
 have HB := Aside0.mk (Below.refl w.heap.size w)
 have H:(if 0≤(l0.length:Int) then (if ((l0.length:Int):Int).toNat≤35184372088832 then (laws_toIntS.l0 k l0 (List.replicate ((l0.length:Int):Int).toNat 0) 0) else (none)) else (none))=some r:=h
 clear h
 by_cases c2 : 0 ≤ (l0.length : Int)
 ·rw [if_pos c2] at H
  have c2b0 := eq_true c2; have c2b1 : decide (0 ≤ (l0.length : Int)) = true := decide_eq_true c2; clear c2
  by_cases c3 : ((l0.length : Int) : Int).toNat ≤ 35184372088832
  ·rw [if_pos c3] at H
   have c3b0:=eq_true c3;have c3b1:decide (((l0.length:Int):Int).toNat≤35184372088832)=true:=decide_eq_true c3;clear c3;obtain ⟨y155,hy155⟩:∃ y_:List Int,y_=(List.replicate ((l0.length:Int):Int).toNat 0):=⟨_,rfl⟩
   replace H:(laws_toIntS.l0 k l0 y155 0)=some r:=by first|(rw [hy155];with_reducible exact H)|(have H2_:=(Option.bind_some _ _).symm.trans H;rw [hy155];with_reducible exact H2_)|(have H2_:=(Option.bind_some _ _).symm.trans H;with_reducible exact H2_)|with_reducible exact H|(rw [hy155];exact H)|exact H
   have Ny155 := Aside0.mk hy155; clear hy155; have H' := Aside0.mk H; clear H; go_enter Try.func27, Try.ntmps27
   go_wp2_with (first|((with_reducible refine gate_dst (N:=7) rfl ?_);refine Kd.R_make (Kd.int .i64) _ 3 rfl (N:=7) rfl 24 _ _ rfl (l0.length:Int) rfl rfl Try.underlying24 (.int .i64 0) 8 info3 rfl (by decide) (by omega) 0 (ok:=fun _=>True) (okp:=fun _=>True) rfl (fun _ hk=>hk) trivial (of_decide_eq_true Z8) (Nat.le_trans (Nat.mul_le_mul_right _ (of_decide_eq_true Z8:(l0.length:Int).toNat≤35184372088832)) (by omega)) (Below.refl _ _) (Nat.le_refl _) ?_;intro v156 w4 ho5 hb hg_ hnew_;clear hg_ hnew_;(first|rw [← Ny155.out] at ho5|(simp only [Int.reduceToNat] at ho5;rw [← Ny155.out] at ho5));have n_:=an_ (Kd.R_lower ho5 (below_size (pB_ HB.out)))<|Aside0.mk (below_step (pB_ HB.out) hb);clear HB;obtain ⟨HO157,HB⟩:=n_;clear hb ho5))
   go_loopg [4] k (fun kq v4 w'=>∃ (x3_1:List Int) (x4_1:Int),v4=.int .i64 x4_1∧Aside0 (laws_toIntS.l0 kq l0 x3_1 x4_1=some r)∧Aside0 (kq≤k)∧Aside0 (Kd.R (Kd.int .i64) 3 w' w.heap.size (fun _=>True) v156 x3_1)∧Aside0 (Below w.heap.size w w'))
   case atStart => exact ⟨(y155), (0), Z9, H', ⟨Nat.le_refl _⟩, ⟨pR_ HO157.out⟩, ⟨pB_ HB.out⟩⟩
   case round =>
    clear H'
    try clear c2
    try clear c2b0
    try clear c2b1
    try clear p2
    try clear c3
    try clear c3b0
    try clear c3b1
    obtain ⟨x3_1, x4_1, rfl, HA, HK1, HO_3, HB⟩ := hrel
    cases gk with
    | zero => exact absurd HA.out (by simp [laws_toIntS.l0])
    | succ k1 =>
     have H := HA.out; clear HA; simp only [laws_toIntS.l0] at H
     by_cases c6 : x4_1 < (l0.length : Int)
     ·rw [if_pos c6] at H
      have c6b0 : decide (x4_1 < (l0.length : Int)) = true := decide_eq_true c6; clear c6
      by_cases c7 : 0 ≤ x4_1
      ·rw [if_pos c7] at H
       have c7b0 : decide (0 ≤ x4_1) = true := decide_eq_true c7; clear c7
       by_cases c8 : x4_1 < (x3_1.length : Int)
       ·rw [if_pos c8] at H
        have c8b0 : decide (x4_1 < (x3_1.length : Int)) = true := decide_eq_true c8; clear c8; obtain ⟨y159, hy159⟩ : ∃ y_ : List Int, y_ = (x3_1.set (x4_1 : Int).toNat (rd l0 x4_1)) := ⟨_, rfl⟩
        replace H:(laws_toIntS.l0 k1 l0 y159 (wrap64 (x4_1 + 1)))=some r:=by first|(rw [hy159];with_reducible exact H)|(have H2_:=(Option.bind_some _ _).symm.trans H;rw [hy159];with_reducible exact H2_)|(have H2_:=(Option.bind_some _ _).symm.trans H;with_reducible exact H2_)|with_reducible exact H|(rw [hy159];exact H)|exact H
        have Ny159:=Aside0.mk hy159;clear hy159;have H':=Aside0.mk H;clear H;have p158:0≤(x4_1:Int):=of_decide_eq_true Z8;have q158:x4_1 < (l0.length:Int):=of_decide_eq_true Z8;obtain ⟨ad158,e158,hx158_0⟩:=Kd.at_int HR0.out x4_1 p158 q158;cases e158;replace hx158_0:=(HB.out.cell (World.block_lt_of_cell? w _ hx158_0)).trans hx158_0;replace p158:=eq_true p158;replace q158:=eq_true q158;have p9:0≤(x4_1:Int):=of_decide_eq_true Z8;have q9:(x4_1:Int) < ((x3_1.length:Int):Int):=of_decide_eq_true Z8;obtain ⟨go9,co9,eo9,gb9,gl9,cl9,HG9⟩:=Kd.R_form HO_3.out (by omega);(first|cases eo9|(injection eo9 with ea_ en_ ec_;(first|subst ea_|(injection ea_ with ea_;subst ea_));subst ec_;clear en_));have GB9:=Aside0.mk gb9;have GG9:=Aside0.mk HG9;clear gb9 gl9 HG9;obtain ⟨hx9_0,hf9_0⟩:=Kd.R_celln 0 HO_3.out (x4_1:Int) p9 q9;replace p9:=eq_true p9;replace q9:=eq_true q9;have HP10:=Kd.R_putg HO_3.out (x4_1:Int) (rd l0 x4_1)
        go_wp2_with (first|((with_reducible refine gate_store (t:=3) (p:=20) rfl ?_);refine store_event (t:=3) (p:=20) (v:=?vo_w11) (w1:=(wr.setCell ⟨go9,(x4_1:Int).toNat,none⟩ (.int .i64 (rd l0 x4_1)))) ?hg ?ho ?hn ?hr ?_;(case ho=>rfl);(case hg=>rfl);(case hn=>rfl);(case hr=>first|(go_simp;done)|(go_simp;rfl));intro w11 hw;have hg:wr.grownBy w11 (some go9):=(by rw [hw];exact HP10.2);have hp_:Kd.R (Kd.int .i64) 3 w11 w.heap.size (fun _=>True) (.slice (some ⟨go9,0,none⟩) x3_1.length co9) y159:=(by rw [hw,Ny159.out];exact HP10.1);clear HP10;have n_:=an_ (hp_)<|Aside0.mk ((by rw [hw];exact below_set (HB.out) GB9.out:Below w.heap.size w w11));clear HO_3 HB;obtain ⟨HO_3,HB⟩:=n_;clear hg hw hp_))
        go_roundg k1
        case measure => have := HK1.out; omega
        case rel => exact ⟨(y159), (wrap64 (x4_1 + 1)), Z9, H', ⟨by have := HK1.out; omega⟩, ⟨pR_ HO_3.out⟩, ⟨pB_ HB.out⟩⟩
       ·rw [if_neg c8] at H
        exact absurd H (by simp)
      ·rw [if_neg c7] at H
       exact absurd H (by simp)
     ·rw [if_neg c6] at H
      have c6b0 : decide (x4_1 < (l0.length : Int)) = false := decide_eq_false c6; clear c6; obtain rfl := Option.some.inj H
      go_wp2
      go_ret;exact ⟨_,by first|rfl|(simp [errW_none,errW_some] <;> rfl)|(simp [*,errW_none,errW_some] <;> rfl),by (with_reducible repeat (first|apply Kd.R_alloc|apply Kd.R_drewN|apply Kd.R_drew));exact HO_3.out,pB_ HB.out⟩
  ·rw [if_neg c3] at H
   exact absurd H (by simp)
 ·rw [if_neg c2] at H
  exact absurd H (by simp)

/-! ### laws_toDeal: function 17 -/
def laws_toDeal.f (k : Nat) (a0_0 : Int) (a0_1 : Int) (a0_2 : Int) (a0_3 : Int) (a0_4 : Int) (l0_5 : List Int) : Option (Int × Int × Int × Int × Int × List Int) := (laws_toVec.f a0_2 a0_3 a0_4).bind fun bt163 => ((laws_toIntS.f k l0_5).bind fun t166 => (some (a0_0, a0_1, bt163.1, bt163.2.1, bt163.2.2, t166)))
set_option maxHeartbeats 8000000 in
set_option maxRecDepth 100000 in
theorem laws_toDeal.calls (k : Nat) (a0_0 : Int) (a0_1 : Int) (a0_2 : Int) (a0_3 : Int) (a0_4 : Int) (A0_5 : Option Addr) (c0_5 : Nat) (l0_5 : List Int) (r1 : Int) (r2 : Int) (r3 : Int) (r4 : Int) (r5 : Int) (r6 : List Int) (w : World) (hr0_5 : Kd.C (Kd.int .i64) w A0_5 l0_5.length l0_5) (hc0_5 : l0_5.length ≤ c0_5) (h : laws_toDeal.f k a0_0 a0_1 a0_2 a0_3 a0_4 l0_5 = some (r1, r2, r3, r4, r5, r6)) :
  Calls Try.prog 17 #[.agg #[.int .i64 a0_0,.int .i64 a0_1,.int .i64 a0_2,.int .i64 a0_3,.int .i64 a0_4,.slice A0_5 l0_5.length c0_5]] w fun e w'=>∃ v5_:Value,e=.returned (.agg #[.int .i64 r1,.int .i64 r2,.int .i64 r3,.int .i64 r4,.int .i64 r5,v5_])∧Kd.R (Kd.int .i64) 3 w' w.heap.size (fun _=>True) v5_ r6∧Below w.heap.size w w':=by
 have hu37 := Try.underlying37
 have hu43 := Try.underlying43
 have hu35 := Try.underlying35
 have hu41 := Try.underlying41
 have HR0_5 := Aside0.mk hr0_5
 have HC0_5 := Aside0.mk hc0_5
 clear hr0_5 hc0_5
 have HB := Aside0.mk (Below.refl w.heap.size w)
 have H : ((laws_toVec.f a0_2 a0_3 a0_4).bind fun bt163 => ((laws_toIntS.f k l0_5).bind fun t166 => (some (a0_0, a0_1, bt163.1, bt163.2.1, bt163.2.2, t166)))) = some (r1, r2, r3, r4, r5, r6) := h
 clear h
 obtain ⟨⟨t163, t164, t165⟩, A20, H⟩ := Option.bind_eq_some_iff.mp H
 (try dsimp only at H)
 have A2 := Aside0.mk A20
 clear A20
 obtain ⟨t166, A30, H⟩ := Option.bind_eq_some_iff.mp H
 (try dsimp only at H)
 have A3 := Aside0.mk A30
 clear A30
 simp only [Option.some.injEq, Prod.mk.injEq] at H
 obtain ⟨rfl, rfl, rfl, rfl, rfl, rfl⟩ := H
 go_enter Try.func17, Try.ntmps17
 go_wp2_with (first|((with_reducible refine gate_dst (N:=1) rfl ?_);refine box_event ?hg (N:=1) ?hd (cs:=#[.int .i64 a0_0,.int .i64 a0_1,.int .i64 a0_2,.int .i64 a0_3,.int .i64 a0_4,.slice A0_5 l0_5.length c0_5]) (t:=37) ?hr ?_;(case hd=>rfl);(case hg=>rfl);(case hr=>first|(go_simp;done)|(go_simp;rfl));intro gb160 hg w4 hbox hb;have n_:=an_ (below_step (pB_ HB.out) hb)<|an_ (hbox)<|an_ ((by rw [hg];exact (below_size (pB_ HB.out)):w.heap.size≤gb160))<|Aside0.mk ((by rw [hg];exact (below_size (pB_ HB.out)):w.heap.size≤gb160));clear HB;obtain ⟨HB,BK160,GW160,GE160⟩:=n_;clear hb hbox hg)|((with_reducible refine gate_dst (N:=2) rfl ?_);refine box_event ?hg (N:=2) ?hd (cs:=#[.int .i64 0,.int .i64 0,.int .i64 0,.int .i64 0,.int .i64 0,.slice none 0 0]) (t:=43) ?hr ?_;(case hd=>rfl);(case hg=>rfl);(case hr=>first|(go_simp;done)|(go_simp;rfl));intro gb161 hg w5 hbox hb;have n_:=an_ (blk_below (pk_ BK160.out) hb)<|an_ (below_step (pB_ HB.out) hb)<|an_ (hbox)<|an_ ((by rw [hg];exact (below_size (pB_ HB.out)):w.heap.size≤gb161))<|an_ ((by rw [hg];exact (below_size (pB_ HB.out)):w.heap.size≤gb161))<|an_ ((by rw [hg];exact Nat.ne_of_lt (blk_lt (pk_ BK160.out)):gb160≠gb161))<|Aside0.mk ((by rw [hg];exact Nat.ne_of_gt (blk_lt (pk_ BK160.out)):gb161≠gb160));clear BK160 HB;obtain ⟨BK160,HB,BK161,GW161,GE161,NB160_161,NB161_160⟩:=n_;clear hb hbox hg)|((with_reducible refine gate_dst (N:=3) rfl ?_);refine box_event ?hg (N:=3) ?hd (cs:=#[.int .i64 0,.int .i64 0,.int .i64 0,.int .i64 0,.int .i64 0,.slice none 0 0]) (t:=43) ?hr ?_;(case hd=>rfl);(case hg=>rfl);(case hr=>first|(go_simp;done)|(go_simp;rfl));intro gb162 hg w6 hbox hb;have n_:=an_ (blk_below (pk_ BK160.out) hb)<|an_ (blk_below (pk_ BK161.out) hb)<|an_ (below_step (pB_ HB.out) hb)<|an_ (hbox)<|an_ ((by rw [hg];exact (below_size (pB_ HB.out)):w.heap.size≤gb162))<|an_ ((by rw [hg];exact (below_size (pB_ HB.out)):w.heap.size≤gb162))<|an_ ((by rw [hg];exact Nat.ne_of_lt (blk_lt (pk_ BK160.out)):gb160≠gb162))<|an_ ((by rw [hg];exact Nat.ne_of_gt (blk_lt (pk_ BK160.out)):gb162≠gb160))<|an_ ((by rw [hg];exact Nat.ne_of_lt (blk_lt (pk_ BK161.out)):gb161≠gb162))<|Aside0.mk ((by rw [hg];exact Nat.ne_of_gt (blk_lt (pk_ BK161.out)):gb162≠gb161));clear BK160 BK161 HB;obtain ⟨BK160,BK161,HB,BK162,GW162,GE162,NB160_162,NB162_160,NB161_162,NB162_161⟩:=n_;clear hb hbox hg;(try have hnb7:=NB160_161.out);(try have hnc7:=NB161_160.out);(try have hnb8:=NB160_162.out);(try have hnc8:=NB162_160.out);have hcz9_0:w6.cell? ⟨gb160,0,none⟩=some (.int .i64 a0_0):=(blk_cell BK160.out 0).trans rfl;have hcz9_1:w6.cell? ⟨gb160,1,none⟩=some (.int .i64 a0_1):=(blk_cell BK160.out 1).trans rfl;have hcz9_2:w6.cell? ⟨gb160,2,none⟩=some (.int .i64 a0_2):=(blk_cell BK160.out 2).trans rfl;have hcz9_3:w6.cell? ⟨gb160,3,none⟩=some (.int .i64 a0_3):=(blk_cell BK160.out 3).trans rfl;have hcz9_4:w6.cell? ⟨gb160,4,none⟩=some (.int .i64 a0_4):=(blk_cell BK160.out 4).trans rfl;have hcz9_5:w6.cell? ⟨gb160,5,none⟩=some (.slice A0_5 l0_5.length c0_5):=(blk_cell BK160.out 5).trans rfl;have hfz9_0:=blk_frozen BK160.out 0;have hfz9_1:=blk_frozen BK160.out 1;have hfz9_2:=blk_frozen BK160.out 2;have hfz9_3:=blk_frozen BK160.out 3;have hfz9_4:=blk_frozen BK160.out 4;have hfz9_5:=blk_frozen BK160.out 5;(try have hnb10:=NB162_161.out);(try have hnc10:=NB161_162.out);have hcz11_0:w6.cell? ⟨gb162,0,none⟩=some (.int .i64 0):=(blk_cell BK162.out 0).trans rfl;have hcz11_1:w6.cell? ⟨gb162,1,none⟩=some (.int .i64 0):=(blk_cell BK162.out 1).trans rfl;have hcz11_2:w6.cell? ⟨gb162,2,none⟩=some (.int .i64 0):=(blk_cell BK162.out 2).trans rfl;have hcz11_3:w6.cell? ⟨gb162,3,none⟩=some (.int .i64 0):=(blk_cell BK162.out 3).trans rfl;have hcz11_4:w6.cell? ⟨gb162,4,none⟩=some (.int .i64 0):=(blk_cell BK162.out 4).trans rfl;have hcz11_5:w6.cell? ⟨gb162,5,none⟩=some (.slice none 0 0):=(blk_cell BK162.out 5).trans rfl;have hfz11_0:=blk_frozen BK162.out 0;have hfz11_1:=blk_frozen BK162.out 1;have hfz11_2:=blk_frozen BK162.out 2;have hfz11_3:=blk_frozen BK162.out 3;have hfz11_4:=blk_frozen BK162.out 4;have hfz11_5:=blk_frozen BK162.out 5)|((with_reducible refine gate_callee (f:=26) rfl ?_);refine goesL_ (some 12) rfl rfl Try.func26 (by kernel_rfl) rfl #[.agg #[.int .i64 a0_2,.int .i64 a0_3,.int .i64 a0_4]] rfl Z2 ?_;(with_reducible refine (laws_toVec.calls a0_2 a0_3 a0_4 t163 t164 t165 _ A2.out).mono ?_);rintro e w12 ⟨rfl,hb⟩;refine ⟨_,rfl,?_⟩;have n_:=an_ (blk_below (g:=gb160) (o:=.cells #[.int .i64 a0_0,.int .i64 a0_1,.int .i64 a0_2,.int .i64 a0_3,.int .i64 a0_4,.slice A0_5 l0_5.length c0_5] 37 (0,0)) (by refine pk_ ?_;refine blk_far ?_ NB160_162.out _;refine pk_ ?_;refine blk_far ?_ NB160_162.out _;refine pk_ ?_;exact BK160.out) hb)<|an_ (blk_below (g:=gb161) (o:=.cells #[.int .i64 0,.int .i64 0,.int .i64 0,.int .i64 0,.int .i64 0,.slice none 0 0] 43 (0,0)) (by refine pk_ ?_;refine blk_far ?_ NB161_162.out _;refine pk_ ?_;refine blk_far ?_ NB161_162.out _;refine pk_ ?_;exact BK161.out) hb)<|an_ (blk_below (g:=gb162) (o:=.cells #[.int .i64 a0_0,.int .i64 a0_1,.int .i64 0,.int .i64 0,.int .i64 0,.slice none 0 0] 43 (0,0)) (by refine pk_ ?_;refine blk_put (cs:=#[.int .i64 a0_0,.int .i64 0,.int .i64 0,.int .i64 0,.int .i64 0,.slice none 0 0]) ?_ 1 _ rfl;refine pk_ ?_;refine blk_put (cs:=#[.int .i64 0,.int .i64 0,.int .i64 0,.int .i64 0,.int .i64 0,.slice none 0 0]) ?_ 0 _ rfl;refine pk_ ?_;exact BK162.out) hb)<|Aside0.mk (below_step (pB_ HB.out) hb);clear BK160 BK161 BK162 HB;obtain ⟨BK160,BK161,BK162,HB⟩:=n_;(try clear hb);(try clear hb2);(try clear hk);(try clear hi);have hcz13_0:w12.cell? ⟨gb162,0,none⟩=some (.int .i64 a0_0):=(blk_cell BK162.out 0).trans rfl;have hcz13_1:w12.cell? ⟨gb162,1,none⟩=some (.int .i64 a0_1):=(blk_cell BK162.out 1).trans rfl;have hcz13_2:w12.cell? ⟨gb162,2,none⟩=some (.int .i64 0):=(blk_cell BK162.out 2).trans rfl;have hcz13_3:w12.cell? ⟨gb162,3,none⟩=some (.int .i64 0):=(blk_cell BK162.out 3).trans rfl;have hcz13_4:w12.cell? ⟨gb162,4,none⟩=some (.int .i64 0):=(blk_cell BK162.out 4).trans rfl;have hcz13_5:w12.cell? ⟨gb162,5,none⟩=some (.slice none 0 0):=(blk_cell BK162.out 5).trans rfl;have hfz13_0:=blk_frozen BK162.out 0;have hfz13_1:=blk_frozen BK162.out 1;have hfz13_2:=blk_frozen BK162.out 2;have hfz13_3:=blk_frozen BK162.out 3;have hfz13_4:=blk_frozen BK162.out 4;have hfz13_5:=blk_frozen BK162.out 5;have hcz14_0:w12.cell? ⟨gb160,0,none⟩=some (.int .i64 a0_0):=(blk_cell BK160.out 0).trans rfl;have hcz14_1:w12.cell? ⟨gb160,1,none⟩=some (.int .i64 a0_1):=(blk_cell BK160.out 1).trans rfl;have hcz14_2:w12.cell? ⟨gb160,2,none⟩=some (.int .i64 a0_2):=(blk_cell BK160.out 2).trans rfl;have hcz14_3:w12.cell? ⟨gb160,3,none⟩=some (.int .i64 a0_3):=(blk_cell BK160.out 3).trans rfl;have hcz14_4:w12.cell? ⟨gb160,4,none⟩=some (.int .i64 a0_4):=(blk_cell BK160.out 4).trans rfl;have hcz14_5:w12.cell? ⟨gb160,5,none⟩=some (.slice A0_5 l0_5.length c0_5):=(blk_cell BK160.out 5).trans rfl;have hfz14_0:=blk_frozen BK160.out 0;have hfz14_1:=blk_frozen BK160.out 1;have hfz14_2:=blk_frozen BK160.out 2;have hfz14_3:=blk_frozen BK160.out 3;have hfz14_4:=blk_frozen BK160.out 4;have hfz14_5:=blk_frozen BK160.out 5)|((with_reducible refine gate_callee (f:=27) rfl ?_);refine goesL_ (some 16) rfl rfl Try.func27 (by kernel_rfl) rfl #[.slice A0_5 l0_5.length c0_5] rfl Z2 ?_;(with_reducible refine (laws_toIntS.calls k _ _ l0_5 t166 _ ?side1 ?side2 A3.out).mono ?_);(case side1=>exact Kd.C_below HR0_5.out (pB_ HB.out));(case side2=>exact HC0_5.out);rintro e w15 ⟨v167,rfl,ho0,hb⟩;refine ⟨_,rfl,?_⟩;have n_:=an_ (Kd.R_lower ho0 (below_size (pB_ HB.out)))<|an_ (blk_below (g:=gb160) (o:=.cells #[.int .i64 a0_0,.int .i64 a0_1,.int .i64 a0_2,.int .i64 a0_3,.int .i64 a0_4,.slice A0_5 l0_5.length c0_5] 37 (0,0)) (by refine pk_ ?_;refine blk_far ?_ NB160_162.out _;refine pk_ ?_;refine blk_far ?_ NB160_162.out _;refine pk_ ?_;refine blk_far ?_ NB160_162.out _;refine pk_ ?_;exact BK160.out) hb)<|an_ (blk_below (g:=gb161) (o:=.cells #[.int .i64 0,.int .i64 0,.int .i64 0,.int .i64 0,.int .i64 0,.slice none 0 0] 43 (0,0)) (by refine pk_ ?_;refine blk_far ?_ NB161_162.out _;refine pk_ ?_;refine blk_far ?_ NB161_162.out _;refine pk_ ?_;refine blk_far ?_ NB161_162.out _;refine pk_ ?_;exact BK161.out) hb)<|an_ (blk_below (g:=gb162) (o:=.cells #[.int .i64 a0_0,.int .i64 a0_1,.int .i64 t163,.int .i64 t164,.int .i64 t165,.slice none 0 0] 43 (0,0)) (by refine pk_ ?_;refine blk_put (cs:=#[.int .i64 a0_0,.int .i64 a0_1,.int .i64 t163,.int .i64 t164,.int .i64 0,.slice none 0 0]) ?_ 4 _ rfl;refine pk_ ?_;refine blk_put (cs:=#[.int .i64 a0_0,.int .i64 a0_1,.int .i64 t163,.int .i64 0,.int .i64 0,.slice none 0 0]) ?_ 3 _ rfl;refine pk_ ?_;refine blk_put (cs:=#[.int .i64 a0_0,.int .i64 a0_1,.int .i64 0,.int .i64 0,.int .i64 0,.slice none 0 0]) ?_ 2 _ rfl;refine pk_ ?_;exact BK162.out) hb)<|Aside0.mk (below_step (pB_ HB.out) hb);clear BK160 BK161 BK162 HB;obtain ⟨HO168,BK160,BK161,BK162,HB⟩:=n_;(try clear hb);(try clear hb2);(try clear hk);(try clear hi);(try clear ho0);obtain ⟨Ao16,co16,eo16⟩:=Kd.R_slice HO168.out;subst eo16;have hcz17_0:w15.cell? ⟨gb162,0,none⟩=some (.int .i64 a0_0):=(blk_cell BK162.out 0).trans rfl;have hcz17_1:w15.cell? ⟨gb162,1,none⟩=some (.int .i64 a0_1):=(blk_cell BK162.out 1).trans rfl;have hcz17_2:w15.cell? ⟨gb162,2,none⟩=some (.int .i64 t163):=(blk_cell BK162.out 2).trans rfl;have hcz17_3:w15.cell? ⟨gb162,3,none⟩=some (.int .i64 t164):=(blk_cell BK162.out 3).trans rfl;have hcz17_4:w15.cell? ⟨gb162,4,none⟩=some (.int .i64 t165):=(blk_cell BK162.out 4).trans rfl;have hcz17_5:w15.cell? ⟨gb162,5,none⟩=some (.slice none 0 0):=(blk_cell BK162.out 5).trans rfl;have hfz17_0:=blk_frozen BK162.out 0;have hfz17_1:=blk_frozen BK162.out 1;have hfz17_2:=blk_frozen BK162.out 2;have hfz17_3:=blk_frozen BK162.out 3;have hfz17_4:=blk_frozen BK162.out 4;have hfz17_5:=blk_frozen BK162.out 5;have hcz18_0:w15.cell? ⟨gb161,0,none⟩=some (.int .i64 0):=(blk_cell BK161.out 0).trans rfl;have hcz18_1:w15.cell? ⟨gb161,1,none⟩=some (.int .i64 0):=(blk_cell BK161.out 1).trans rfl;have hcz18_2:w15.cell? ⟨gb161,2,none⟩=some (.int .i64 0):=(blk_cell BK161.out 2).trans rfl;have hcz18_3:w15.cell? ⟨gb161,3,none⟩=some (.int .i64 0):=(blk_cell BK161.out 3).trans rfl;have hcz18_4:w15.cell? ⟨gb161,4,none⟩=some (.int .i64 0):=(blk_cell BK161.out 4).trans rfl;have hcz18_5:w15.cell? ⟨gb161,5,none⟩=some (.slice none 0 0):=(blk_cell BK161.out 5).trans rfl;have hfz18_0:=blk_frozen BK161.out 0;have hfz18_1:=blk_frozen BK161.out 1;have hfz18_2:=blk_frozen BK161.out 2;have hfz18_3:=blk_frozen BK161.out 3;have hfz18_4:=blk_frozen BK161.out 4;have hfz18_5:=blk_frozen BK161.out 5))
 refine bodyPost_ret (results_cell_row rfl _ _ gb161 43 #[.int .i64 a0_0,.int .i64 a0_1,.int .i64 t163,.int .i64 t164,.int .i64 t165,.slice Ao16 t166.length co16] (0,0) _ rfl (by refine pk_ ?_;refine blk_put (cs:=#[.int .i64 a0_0,.int .i64 a0_1,.int .i64 t163,.int .i64 t164,.int .i64 t165,.slice none 0 0]) ?_ 5 _ rfl;refine pk_ ?_;refine blk_put (cs:=#[.int .i64 a0_0,.int .i64 a0_1,.int .i64 t163,.int .i64 t164,.int .i64 0,.slice none 0 0]) ?_ 4 _ rfl;refine pk_ ?_;refine blk_put (cs:=#[.int .i64 a0_0,.int .i64 a0_1,.int .i64 t163,.int .i64 0,.int .i64 0,.slice none 0 0]) ?_ 3 _ rfl;refine pk_ ?_;refine blk_put (cs:=#[.int .i64 a0_0,.int .i64 a0_1,.int .i64 0,.int .i64 0,.int .i64 0,.slice none 0 0]) ?_ 2 _ rfl;refine pk_ ?_;refine blk_put (cs:=#[.int .i64 a0_0,.int .i64 0,.int .i64 0,.int .i64 0,.int .i64 0,.slice none 0 0]) ?_ 1 _ rfl;refine pk_ ?_;refine blk_put (cs:=#[.int .i64 0,.int .i64 0,.int .i64 0,.int .i64 0,.int .i64 0,.slice none 0 0]) ?_ 0 _ rfl;refine pk_ ?_;refine blk_far ?_ NB161_162.out _;refine pk_ ?_;exact BK161.out) Try.underlying43 rfl (by kernel_rfl)) rfl ?_
 exact ⟨_,by first|rfl|(simp [errW_none,errW_some] <;> rfl)|(simp [*,errW_none,errW_some] <;> rfl),by (with_reducible repeat (first|apply Kd.R_alloc|apply Kd.R_drewN|apply Kd.R_drew));exact Kd.R_mono (fr_ (fr_ (fr_ (fr_ (fr_ (fr_ (Kd.R_far (p:=⟨gb162,5,none⟩) (Kd.R_types (Kd.R_types HO168.out BK162.out (by decide)) BK161.out (by decide)) (fun _ hk=>hk.1.2) (.slice Ao16 t166.length co16)) 0 (.int .i64 a0_0)) 1 (.int .i64 a0_1)) 2 (.int .i64 t163)) 3 (.int .i64 t164)) 4 (.int .i64 t165)) 5 (.slice Ao16 t166.length co16)) (fun _ hk=>trivial),pB_ HB.out⟩

/-! ### laws_toDealS: function 6 -/
def laws_toDealS.l0 : Nat → List (S37) → List (S43) → Int → Option ((List (S43)))
 | 0, _, _, _ => none
 | k + 1,x0,x3,x4=>if x4 < (x0.length:Int) then (if 0≤x4 then ((laws_toDeal.f k ((rd_T37 x0 x4).f0) ((rd_T37 x0 x4).f1) ((rd_T37 x0 x4).f2.f0) ((rd_T37 x0 x4).f2.f1) ((rd_T37 x0 x4).f2.f2) ((rd_T37 x0 x4).f3)).bind fun bt173=>(if x4 < (x3.length:Int) then (laws_toDealS.l0 k x0 (x3.set (x4:Int).toNat (⟨bt173.1,bt173.2.1,(⟨bt173.2.2.1,bt173.2.2.2.1,bt173.2.2.2.2.1⟩:S41),bt173.2.2.2.2.2⟩:S43)) (wrap64 (x4 + 1))) else (none))) else (none)) else (some x3)
def laws_toDealS.f (k : Nat) (l0 : List (S37)) : Option ((List (S43))) := if 0 ≤ (l0.length : Int) then (if ((l0.length : Int) : Int).toNat ≤ 4398046511104 then (laws_toDealS.l0 k l0 (List.replicate ((l0.length : Int) : Int).toNat z43) 0) else (none)) else (none)
set_option maxHeartbeats 8000000 in
set_option maxRecDepth 100000 in
theorem laws_toDealS.calls (k : Nat) (A0 : Option Addr) (c0 : Nat) (l0 : List (S37)) (r : List (S43)) (w : World) (hr0 : Kd.C k37 w A0 l0.length l0) (hc0 : l0.length ≤ c0) (h : laws_toDealS.f k l0 = some r) :
  Calls Try.prog 6 #[.slice A0 l0.length c0] w fun e w' => ∃ v0_ : Value, e = .returned (v0_) ∧ Kd.S k43 43 w' w.heap.size (fun _ => True) v0_ r ∧ Below w.heap.size w w' := by
 have hu37 := Try.underlying37
 have hu43 := Try.underlying43
 have HR0 := Aside0.mk hr0
 have HC0 := Aside0.mk hc0
 clear hr0 hc0
 have HB := Aside0.mk (Below.refl w.heap.size w)
 have H:(if 0≤(l0.length:Int) then (if ((l0.length:Int):Int).toNat≤4398046511104 then (laws_toDealS.l0 k l0 (List.replicate ((l0.length:Int):Int).toNat z43) 0) else (none)) else (none))=some r:=h
 clear h
 by_cases c2 : 0 ≤ (l0.length : Int)
 ·rw [if_pos c2] at H
  have c2b0 := eq_true c2; have c2b1 : decide (0 ≤ (l0.length : Int)) = true := decide_eq_true c2; clear c2
  by_cases c3 : ((l0.length : Int) : Int).toNat ≤ 4398046511104
  ·rw [if_pos c3] at H
   have c3b0:=eq_true c3;have c3b1:decide (((l0.length:Int):Int).toNat≤4398046511104)=true:=decide_eq_true c3;clear c3;obtain ⟨y169,hy169⟩:∃ y_:List (S43),y_=(List.replicate ((l0.length:Int):Int).toNat z43):=⟨_,rfl⟩
   replace H:(laws_toDealS.l0 k l0 y169 0)=some r:=by first|(rw [hy169];with_reducible exact H)|(have H2_:=(Option.bind_some _ _).symm.trans H;rw [hy169];with_reducible exact H2_)|(have H2_:=(Option.bind_some _ _).symm.trans H;with_reducible exact H2_)|with_reducible exact H|(rw [hy169];exact H)|exact H
   have Ny169 := Aside0.mk hy169; clear hy169; have H' := Aside0.mk H; clear H; go_enter Try.func6, Try.ntmps6
   go_wp2_with (first|((with_reducible refine gate_dst (N:=7) rfl ?_);refine Kd.S_make k43 _ 43 rfl (N:=7) rfl 26 _ _ rfl (l0.length:Int) rfl rfl Try.underlying26 (.agg #[(.int .i64 0),(.int .i64 0),(.int .i64 0),(.int .i64 0),(.int .i64 0),(.slice none 0 0)]) 64 info43 rfl (by decide) (by omega) z43 (ok:=fun _=>True) (okp:=fun _=>True) (k43_mkM _ _ _ z43 (Kd.R_nil _ _ _ _ _)) (fun _ hk=>hk) trivial (of_decide_eq_true Z8) (Nat.le_trans (Nat.mul_le_mul_right _ (of_decide_eq_true Z8:(l0.length:Int).toNat≤4398046511104)) (by omega)) (Below.refl _ _) (Nat.le_refl _) ?_;intro v170 w4 ho5 hb hg_ hnew_;clear hg_ hnew_;(first|rw [← Ny169.out] at ho5|(simp only [Int.reduceToNat] at ho5;rw [← Ny169.out] at ho5));have n_:=an_ (Kd.S_lower ho5 (below_size (pB_ HB.out)))<|Aside0.mk (below_step (pB_ HB.out) hb);clear HB;obtain ⟨HO171,HB⟩:=n_;clear hb ho5))
   go_loopg [4] k (fun kq v4 w'=>∃ (x3_1:List (S43)) (x4_1:Int),v4=.int .i64 x4_1∧Aside0 (laws_toDealS.l0 kq l0 x3_1 x4_1=some r)∧Aside0 (kq≤k)∧Aside0 (Kd.S k43 43 w' w.heap.size (fun _=>True) v170 x3_1)∧Aside0 (Below w.heap.size w w'))
   case atStart => exact ⟨(y169), (0), Z9, H', ⟨Nat.le_refl _⟩, ⟨pS_ HO171.out⟩, ⟨pB_ HB.out⟩⟩
   case round =>
    clear H'
    try clear c2
    try clear c2b0
    try clear c2b1
    try clear p2
    try clear c3
    try clear c3b0
    try clear c3b1
    obtain ⟨x3_1, x4_1, rfl, HA, HK1, HO_3, HB⟩ := hrel
    cases gk with
    | zero => exact absurd HA.out (by simp [laws_toDealS.l0])
    | succ k1 =>
     have H := HA.out; clear HA; simp only [laws_toDealS.l0] at H
     by_cases c6 : x4_1 < (l0.length : Int)
     ·rw [if_pos c6] at H
      have c6b0 : decide (x4_1 < (l0.length : Int)) = true := decide_eq_true c6; clear c6
      by_cases c7 : 0 ≤ x4_1
      ·rw [if_pos c7] at H
       have c7b0:decide (0≤x4_1)=true:=decide_eq_true c7;clear c7;obtain ⟨⟨t173,t174,t175,t176,t177,t178⟩,A80,H⟩:=Option.bind_eq_some_iff.mp H;(try dsimp only at H);have A8:=Aside0.mk A80;clear A80
       by_cases c9 : x4_1 < (x3_1.length : Int)
       ·rw [if_pos c9] at H
        have c9b0:decide (x4_1 < (x3_1.length:Int))=true:=decide_eq_true c9;clear c9;obtain ⟨y181,hy181⟩:∃ y_:List (S43),y_=(x3_1.set (x4_1:Int).toNat (⟨t173,t174,(⟨t175,t176,t177⟩:S41),t178⟩:S43)):=⟨_,rfl⟩
        replace H:(laws_toDealS.l0 k1 l0 y181 (wrap64 (x4_1 + 1)))=some r:=by first|(rw [hy181];with_reducible exact H)|(have H2_:=(Option.bind_some _ _).symm.trans H;rw [hy181];with_reducible exact H2_)|(have H2_:=(Option.bind_some _ _).symm.trans H;with_reducible exact H2_)|with_reducible exact H|(rw [hy181];exact H)|exact H
        have Ny181:=Aside0.mk hy181;clear hy181;have H':=Aside0.mk H;clear H;have p172:0≤(x4_1:Int):=of_decide_eq_true Z8;have q172:x4_1 < (l0.length:Int):=of_decide_eq_true Z8;obtain ⟨ad172,A172_5,c172_5,e172,hx172_0,hx172_1,hx172_2,hx172_3,hx172_4,hx172_5,hl172_5,hi172_5⟩:=at_T37 HR0.out x4_1 p172 q172;cases e172;replace hx172_0:=(HB.out.cell (World.block_lt_of_cell? w _ hx172_0)).trans hx172_0;replace hx172_1:=(HB.out.cell (World.block_lt_of_cell? w _ hx172_1)).trans hx172_1;replace hx172_2:=(HB.out.cell (World.block_lt_of_cell? w _ hx172_2)).trans hx172_2;replace hx172_3:=(HB.out.cell (World.block_lt_of_cell? w _ hx172_3)).trans hx172_3;replace hx172_4:=(HB.out.cell (World.block_lt_of_cell? w _ hx172_4)).trans hx172_4;replace hx172_5:=(HB.out.cell (World.block_lt_of_cell? w _ hx172_5)).trans hx172_5;have HR172_5:=Aside0.mk hi172_5;have HC172_5:=Aside0.mk hl172_5;clear hi172_5 hl172_5;replace p172:=eq_true p172;replace q172:=eq_true q172
        go_wp2_with (first|((with_reducible refine gate_callee (f:=17) rfl ?_);refine goesL_ (some 20) rfl rfl Try.func17 (by kernel_rfl) rfl #[.agg #[.int .i64 ((rd_T37 l0 x4_1).f0),.int .i64 ((rd_T37 l0 x4_1).f1),.int .i64 ((rd_T37 l0 x4_1).f2.f0),.int .i64 ((rd_T37 l0 x4_1).f2.f1),.int .i64 ((rd_T37 l0 x4_1).f2.f2),.slice A172_5 ((rd_T37 l0 x4_1).f3).length c172_5]] rfl Z2 ?_;(with_reducible refine (laws_toDeal.calls k1 ((rd_T37 l0 x4_1).f0) ((rd_T37 l0 x4_1).f1) ((rd_T37 l0 x4_1).f2.f0) ((rd_T37 l0 x4_1).f2.f1) ((rd_T37 l0 x4_1).f2.f2) _ _ ((rd_T37 l0 x4_1).f3) t173 t174 t175 t176 t177 t178 _ ?side1 ?side2 A8.out).mono ?_);(case side1=>exact pC_ (Kd.C_below HR172_5.out HB.out));(case side2=>exact HC172_5.out);rintro e w11 ⟨v179,rfl,ho0,hb⟩;refine ⟨_,rfl,?_⟩;have n_:=an_ (Kd.S_elder' (pS_ HO_3.out) (Kd.R_base ho0) hb)<|an_ (Kd.R_lower ho0 (below_size (pB_ HB.out)))<|Aside0.mk (below_step (pB_ HB.out) hb);clear HO_3 HB;obtain ⟨HO_3,HO180,HB⟩:=n_;(try clear hb);(try clear hb2);(try clear hk);(try clear hi);(try clear ho0);have p10:0≤(x4_1:Int):=of_decide_eq_true Z8;have q10:(x4_1:Int) < ((x3_1.length:Int):Int):=of_decide_eq_true Z8;obtain ⟨go10,co10,eo10,gb10,gl10,cl10,HG10⟩:=Kd.S_form HO_3.out (by omega);(first|cases eo10|(injection eo10 with ea_ en_ ec_;(first|subst ea_|(injection ea_ with ea_;subst ea_));subst ec_;clear en_));have GB10:=Aside0.mk gb10;have GG10:=Aside0.mk HG10;clear gb10 gl10 HG10;obtain ⟨_,ce10,hcl10,hM10,hcc10,hfr10,_,_⟩:=Kd.S_elem HO_3.out z43 (x4_1:Int) p10 q10;obtain ⟨ve10_5,rfl,ge10_5⟩:=k43_openM hM10;have hx10_0:w11.cell? ⟨go10,(x4_1:Int).toNat * 6,none⟩=some (.int .i64 ((rd_T43 x3_1 x4_1).f0)):=hcc10 0 _ rfl;have hx10_1:w11.cell? ⟨go10,(x4_1:Int).toNat * 6 + 1,none⟩=some (.int .i64 ((rd_T43 x3_1 x4_1).f1)):=hcc10 1 _ rfl;have hx10_2:w11.cell? ⟨go10,(x4_1:Int).toNat * 6 + 2,none⟩=some (.int .i64 ((rd_T43 x3_1 x4_1).f2.f0)):=hcc10 2 _ rfl;have hx10_3:w11.cell? ⟨go10,(x4_1:Int).toNat * 6 + 3,none⟩=some (.int .i64 ((rd_T43 x3_1 x4_1).f2.f1)):=hcc10 3 _ rfl;have hx10_4:w11.cell? ⟨go10,(x4_1:Int).toNat * 6 + 4,none⟩=some (.int .i64 ((rd_T43 x3_1 x4_1).f2.f2)):=hcc10 4 _ rfl;have hx10_5:w11.cell? ⟨go10,(x4_1:Int).toNat * 6 + 5,none⟩=some (ve10_5):=hcc10 5 _ rfl;have hf10_0:w11.frozen? ⟨go10,(x4_1:Int).toNat * 6,none⟩=false:=hfr10 0;have hf10_1:w11.frozen? ⟨go10,(x4_1:Int).toNat * 6 + 1,none⟩=false:=hfr10 1;have hf10_2:w11.frozen? ⟨go10,(x4_1:Int).toNat * 6 + 2,none⟩=false:=hfr10 2;have hf10_3:w11.frozen? ⟨go10,(x4_1:Int).toNat * 6 + 3,none⟩=false:=hfr10 3;have hf10_4:w11.frozen? ⟨go10,(x4_1:Int).toNat * 6 + 4,none⟩=false:=hfr10 4;have hf10_5:w11.frozen? ⟨go10,(x4_1:Int).toNat * 6 + 5,none⟩=false:=hfr10 5;clear hcl10 hcc10 hfr10 hM10;replace p10:=eq_true p10;replace q10:=eq_true q10;have n_:=Aside0.mk (Kd.S_mono (ok':=(fun k_=>some k_≠(v179:Value).ownBlock)) HO_3.out (fun k_ hk=>hk.2));clear HO_3;have HO_3:=n_;clear n_;have HX12:=Aside0.mk (show Kd.S k43 43 w11 w.heap.size (fun k_=>((fun _=>True)) k_∧¬ ((fun k_=>some k_=(v179:Value).ownBlock)) k_) (.slice (some ⟨go10,0,none⟩) x3_1.length co10) x3_1 from (pS_ (Kd.S_mono HO_3.out (fun k_ hk=>⟨trivial,fun e_=>hk e_⟩))));obtain ⟨oki12,ce12,hcl12,hM12,hcc12,hfr12,hoki12,hH12⟩:=Kd.S_elem HX12.out z43 (x4_1:Int) (of_decide_eq_true Z8) (by have h_:(x4_1:Int) < ((x3_1.length:Int):Int):=of_decide_eq_true Z8;first|exact h_|(have e_:=(Kd.S_reads' HO_3.out).1;omega)|simpa using h_);obtain ⟨ve12_5,rfl,ge12_5⟩:=k43_openM hM12;have HP12:=Kd.S_seg hH12 (of_decide_eq_true Z8) (by have h_:(x4_1:Int) < ((x3_1.length:Int):Int):=of_decide_eq_true Z8;first|exact h_|(have e_:=(Kd.S_reads' HO_3.out).1;omega)|simpa using h_) (seg:=[.int .i64 t173,.int .i64 t174,.int .i64 t175,.int .i64 t176,.int .i64 t177,v179]) (j:=0) (show 6≤6 from by decide) (x':=(⟨t173,t174,(⟨t175,t176,t177⟩:S41),t178⟩:S43)) (k43_mkM _ _ _ (⟨t173,t174,(⟨t175,t176,t177⟩:S41),t178⟩:S43) (Kd.R_mono (Kd.R_tight rfl (Kd.R_mono (ok':=fun k_=>((fun _=>True)) k_∧k_≠go10) (Kd.R_apart' (HO180.out) (Kd.S_typed HO_3.out) (by decide)) (fun k_ hk=>⟨trivial,fun e_=>(hk.2) (by rw [e_];rfl)⟩))) (fun _ h_=>Or.inr (h_)))) (fun _ hk=>hk) (fun k_ hk_=>((Kd.R_mono (ok':=fun k_=>((fun _=>True)) k_∧k_≠go10) (Kd.R_apart' (HO180.out) (Kd.S_typed HO_3.out) (by decide)) (fun k_ hk=>⟨trivial,fun e_=>(hk.2) (by rw [e_];rfl)⟩))).1 k_ hk_.symm);have hx12_0:=hcc12 0 _ rfl;(try simp only [show (k43).sz=6 from rfl,Nat.mul_one,Nat.add_zero] at hx12_0);have hf12_0:=hfr12 0;(try simp only [show (k43).sz=6 from rfl,Nat.mul_one,Nat.add_zero] at hf12_0);have hx12_1:=hcc12 1 _ rfl;(try simp only [show (k43).sz=6 from rfl,Nat.mul_one,Nat.add_zero] at hx12_1);have hf12_1:=hfr12 1;(try simp only [show (k43).sz=6 from rfl,Nat.mul_one,Nat.add_zero] at hf12_1);have hx12_2:=hcc12 2 _ rfl;(try simp only [show (k43).sz=6 from rfl,Nat.mul_one,Nat.add_zero] at hx12_2);have hf12_2:=hfr12 2;(try simp only [show (k43).sz=6 from rfl,Nat.mul_one,Nat.add_zero] at hf12_2);have hx12_3:=hcc12 3 _ rfl;(try simp only [show (k43).sz=6 from rfl,Nat.mul_one,Nat.add_zero] at hx12_3);have hf12_3:=hfr12 3;(try simp only [show (k43).sz=6 from rfl,Nat.mul_one,Nat.add_zero] at hf12_3);have hx12_4:=hcc12 4 _ rfl;(try simp only [show (k43).sz=6 from rfl,Nat.mul_one,Nat.add_zero] at hx12_4);have hf12_4:=hfr12 4;(try simp only [show (k43).sz=6 from rfl,Nat.mul_one,Nat.add_zero] at hf12_4);have hx12_5:=hcc12 5 _ rfl;(try simp only [show (k43).sz=6 from rfl,Nat.mul_one,Nat.add_zero] at hx12_5);have hf12_5:=hfr12 5;(try simp only [show (k43).sz=6 from rfl,Nat.mul_one,Nat.add_zero] at hf12_5);clear hcl12 hcc12 hfr12 hM12 hoki12 hH12)|((with_reducible refine gate_store (t:=43) (p:=21) rfl ?_);refine store_event (t:=43) (p:=21) (v:=?vo_w13) (w1:=((((((w11.setCell ⟨go10,(x4_1:Int).toNat * 6,none⟩ (.int .i64 t173)).setCell ⟨go10,(x4_1:Int).toNat * 6 + 1,none⟩ (.int .i64 t174)).setCell ⟨go10,(x4_1:Int).toNat * 6 + 2,none⟩ (.int .i64 t175)).setCell ⟨go10,(x4_1:Int).toNat * 6 + 3,none⟩ (.int .i64 t176)).setCell ⟨go10,(x4_1:Int).toNat * 6 + 4,none⟩ (.int .i64 t177)).setCell ⟨go10,(x4_1:Int).toNat * 6 + 5,none⟩ (v179))) ?hg ?ho ?hn ?hr ?_;(case ho=>rfl);(case hg=>rfl);(case hn=>rfl);(case hr=>first|(go_simp;done)|(go_simp;rfl)|(obtain ⟨_,_,e_⟩:=Kd.R_slice HO180.out;subst e_;first|(go_simp;done)|(go_simp;rfl)));intro w13 hw;have hg:w11.grownBy w13 (some go10):=(by rw [hw];exact HP12.2);have hp_:Kd.S k43 43 w13 w.heap.size (fun _=>True) (.slice (some ⟨go10,0,none⟩) x3_1.length co10) y181:=(by rw [hw,Ny181.out];exact HP12.1);clear HP12;have n_:=an_ (hp_)<|Aside0.mk ((by rw [hw];exact below_set (below_set (below_set (below_set (below_set (below_set (HB.out) GB10.out) GB10.out) GB10.out) GB10.out) GB10.out) GB10.out:Below w.heap.size w w13));clear HO_3 HB HO180;obtain ⟨HO_3,HB⟩:=n_;clear hg hw hp_))
        go_roundg k1
        case measure => have := HK1.out; omega
        case rel => exact ⟨(y181), (wrap64 (x4_1 + 1)), Z9, H', ⟨by have := HK1.out; omega⟩, ⟨pS_ HO_3.out⟩, ⟨pB_ HB.out⟩⟩
       ·rw [if_neg c9] at H
        exact absurd H (by simp)
      ·rw [if_neg c7] at H
       exact absurd H (by simp)
     ·rw [if_neg c6] at H
      have c6b0 : decide (x4_1 < (l0.length : Int)) = false := decide_eq_false c6; clear c6; obtain rfl := Option.some.inj H
      go_wp2
      go_ret;exact ⟨_,by first|rfl|(simp [errW_none,errW_some] <;> rfl)|(simp [*,errW_none,errW_some] <;> rfl),by (with_reducible repeat (first|apply Kd.S_alloc|apply Kd.S_drewN|apply Kd.S_drew));exact HO_3.out,pB_ HB.out⟩
  ·rw [if_neg c3] at H
   exact absurd H (by simp)
 ·rw [if_neg c2] at H
  exact absurd H (by simp)

end Go.Proofs.Ytecabogkenabnac.PFnExactMains
