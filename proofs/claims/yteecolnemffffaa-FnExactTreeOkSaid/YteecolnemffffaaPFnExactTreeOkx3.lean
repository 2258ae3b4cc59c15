-- by a program of this session's, over the kit's words
import Derived.Test.YteecolnemffffaaPZFnExactTreeOk
import Derived.Test.YteecolnemffffaaPFnExactTreeOkx0
import Derived.Test.YteecolnemffffaaPFnExactTreeOkx2
namespace Go.Proofs.Yteecolnemffffaa.PFnExactTreeOk
open Go.RowKit Go.Proofs.YteecolnemffffaaW.PrintWords Go.Proofs.YteecolnemffffaaW.PrintLast Go.Proofs.YteecolnemffffaaW.PrintMore Go.Proofs.YteecolnemffffaaV Go.Proofs.Yteecolnemffffaa.ZFnExactTreeOk
attribute [local go_sem] max2_int min2_int max_two min_two max_three min_three max_four min_four   -- for this text's walks alone
set_option linter.unusedVariables false
set_option linter.unusedSimpArgs false

/-! ### spec_FairOk: function 113 -/
mutual
def spec_FairOk.j0 : Nat → Bool → Int → Int → Int → Int → List (S136) → Option (Bool)
  | 0, _, _, _, _, _, _ => none
  | k + 1, x22, x141000, x141001, x141002, x141003, x141004 => if x22 = true then (some false) else (spec_FairOk.l0 k 0 x141000 x141001 x141002 x141003 x141004)
def spec_FairOk.l0 : Nat → Int → Int → Int → Int → Int → List (S136) → Option (Bool)
  | 0, _, _, _, _, _, _ => none
  | k + 1, x3, x141000, x141001, x141002, x141003, x141004 => if x3 < (x141004.length : Int) then (if 0 ≤ x3 then (if ((rd_T136 x141004 x3).f0) < 0 then (spec_FairOk.j2 k x3 true x141000 x141001 x141002 x141003 x141004 ((rd_T136 x141004 x3).f0) ((rd_T136 x141004 x3).f1) ((rd_T136 x141004 x3).f2) ((rd_T136 x141004 x3).f3.f0) ((rd_T136 x141004 x3).f3.f1) ((rd_T136 x141004 x3).f3.f2)) else (if ((rd_T136 x141004 x3).f0) > 9999 then (spec_FairOk.j2 k x3 true x141000 x141001 x141002 x141003 x141004 ((rd_T136 x141004 x3).f0) ((rd_T136 x141004 x3).f1) ((rd_T136 x141004 x3).f2) ((rd_T136 x141004 x3).f3.f0) ((rd_T136 x141004 x3).f3.f1) ((rd_T136 x141004 x3).f3.f2)) else (if x3 > 0 then (if 0 ≤ (wrap64 (x3 - 1)) then (if (wrap64 (x3 - 1)) < (x141004.length : Int) then (if ((rd_T136 x141004 (wrap64 (x3 - 1))).f0) ≥ ((rd_T136 x141004 x3).f0) then (spec_FairOk.j2 k x3 true x141000 x141001 x141002 x141003 x141004 ((rd_T136 x141004 x3).f0) ((rd_T136 x141004 x3).f1) ((rd_T136 x141004 x3).f2) ((rd_T136 x141004 x3).f3.f0) ((rd_T136 x141004 x3).f3.f1) ((rd_T136 x141004 x3).f3.f2)) else ((spec_Stride.f ((rd_T136 x141004 x3).f1)).bind fun t146 => (if t146 = 0 then (spec_FairOk.j2 k x3 true x141000 x141001 x141002 x141003 x141004 ((rd_T136 x141004 x3).f0) ((rd_T136 x141004 x3).f1) ((rd_T136 x141004 x3).f2) ((rd_T136 x141004 x3).f3.f0) ((rd_T136 x141004 x3).f3.f1) ((rd_T136 x141004 x3).f3.f2)) else ((spec_Narrow.f ((rd_T136 x141004 x3).f3.f0) ((rd_T136 x141004 x3).f3.f1) ((rd_T136 x141004 x3).f3.f2) x141000).bind fun t147 => (spec_FairOk.j2 k x3 (!t147) x141000 x141001 x141002 x141003 x141004 ((rd_T136 x141004 x3).f0) ((rd_T136 x141004 x3).f1) ((rd_T136 x141004 x3).f2) ((rd_T136 x141004 x3).f3.f0) ((rd_T136 x141004 x3).f3.f1) ((rd_T136 x141004 x3).f3.f2)))))) else (none)) else (none)) else ((spec_Stride.f ((rd_T136 x141004 x3).f1)).bind fun t148 => (if t148 = 0 then (spec_FairOk.j2 k x3 true x141000 x141001 x141002 x141003 x141004 ((rd_T136 x141004 x3).f0) ((rd_T136 x141004 x3).f1) ((rd_T136 x141004 x3).f2) ((rd_T136 x141004 x3).f3.f0) ((rd_T136 x141004 x3).f3.f1) ((rd_T136 x141004 x3).f3.f2)) else ((spec_Narrow.f ((rd_T136 x141004 x3).f3.f0) ((rd_T136 x141004 x3).f3.f1) ((rd_T136 x141004 x3).f3.f2) x141000).bind fun t149 => (spec_FairOk.j2 k x3 (!t149) x141000 x141001 x141002 x141003 x141004 ((rd_T136 x141004 x3).f0) ((rd_T136 x141004 x3).f1) ((rd_T136 x141004 x3).f2) ((rd_T136 x141004 x3).f3.f0) ((rd_T136 x141004 x3).f3.f1) ((rd_T136 x141004 x3).f3.f2)))))))) else (none)) else (some true)
def spec_FairOk.j2 : Nat → Int → Bool → Int → Int → Int → Int → List (S136) → Int → Int → Bool → Int → Int → Int → Option (Bool)
  | 0, _, _, _, _, _, _, _, _, _, _, _, _, _ => none
  | k + 1, x3, x72, x141000, x141001, x141002, x141003, x141004, x145000, x145001, x145002, x145003, x145004, x145005 => if x72 = true then (some false) else ((spec_VecTop.f x145003 x145004 x145005).bind fun t150 => ((spec_VecTop.f x141001 x141002 x141003).bind fun t151 => ((spec_Stride.f x145001).bind fun t152 => (if t150 > (wrap64 (t151 + (wrap64 (t152 * 2000)))) then (some false) else (if x145002 = true then ((spec_VecTop.f x145003 x145004 x145005).bind fun t153 => ((spec_VecTop.f x141001 x141002 x141003).bind fun t154 => (if t153 < t154 then (some false) else (spec_FairOk.l0 k (wrap64 (x3 + 1)) x141000 x141001 x141002 x141003 x141004)))) else (spec_FairOk.l0 k (wrap64 (x3 + 1)) x141000 x141001 x141002 x141003 x141004))))))
end
def spec_FairOk.f (k : Nat) (a0_0 : Int) (a0_1 : Int) (a0_2 : Int) (a0_3 : Int) (l0_4 : List (S136)) : Option (Bool) := (spec_Narrow.f a0_1 a0_2 a0_3 a0_0).bind fun t141 => (if t141 = true then ((spec_VecTop.f a0_1 a0_2 a0_3).bind fun t142 => (if t142 > 100000000000 then (spec_FairOk.j0 k true a0_0 a0_1 a0_2 a0_3 l0_4) else (spec_FairOk.j0 k (decide ((l0_4.length : Int) > 48)) a0_0 a0_1 a0_2 a0_3 l0_4))) else (spec_FairOk.j0 k true a0_0 a0_1 a0_2 a0_3 l0_4))
def spec_FairOk.T7 : Bool × List (List Nat × List Nat) := (true, [([], []), ([0], [0]), ([1], [1]), ([2], [2]), ([3], [3]), ([4, 3], [3, 4]), ([5, 3], [3, 5]), ([3, 6], [3, 6]), ([7, 3], [7]), ([8], [8]), ([9, 8], [8, 9]), ([10, 8, 8], [8, 10]), ([11], [11]), ([12, 11], [11, 12]), ([11], [11]), ([14, 11], [11, 14]), ([13, 15, 11], [11, 13, 15]), ([16, 11], [11, 16]), ([17, 11], [11, 17]), ([11], [11]), ([19, 11], [11, 19]), ([18, 20, 11], [11, 18, 20]), ([11, 21, 8], [8, 11, 21]), ([8, 22], [8, 22]), ([23, 11], [23]), ([24], [24]), ([25, 24], [24, 25]), ([26, 24, 24], [24, 26]), ([27, 24], [24, 27]), ([24, 28], [24, 28]), ([29, 27], [29]), ([30], [30]), ([31, 30], [30, 31]), ([30], [30]), ([33, 30], [30, 33]), ([32, 34, 30, 30], [30, 32, 34]), ([35, 30], [30, 35]), ([30, 36], [30, 36])])
def spec_FairOk.B7 : List Nat := [0, 1, 3, 7, 15, 31, 63, 127, 255, 511, 1023, 2047, 4095, 8191, 4095, 20479, 65535, 131071, 262143, 4095, 528383, 2097151, 4194303, 8388607, 16777215, 33554431, 67108863, 134217727, 268435455, 536870911, 1073741823, 2147483647, 4294967295, 2147483647, 10737418239, 34359738367, 68719476735, 137438953471]
theorem spec_FairOk.tab7 : rtab .any (opsOf Try.f113 7) = spec_FairOk.T7 := by kernel_rfl
theorem spec_FairOk.bits7 : waitsOk spec_FairOk.T7.2 spec_FairOk.B7 = true := by kernel_rfl
def spec_FairOk.T9 : Bool × List (List Nat × List Nat) := (true, [([], []), ([0], [0]), ([1], [1]), ([], []), ([3], [3]), ([4, 2], [4]), ([], []), ([6], [6]), ([7, 5], [7]), ([8], [8]), ([5, 9], [5, 9]), ([2, 10], [2, 10]), ([11, 8], [11]), ([12], [12]), ([13, 12], [12, 13]), ([14, 12, 12], [12, 14]), ([15], [15]), ([16, 15], [15, 16]), ([17, 15, 15], [15, 17]), ([15], [15]), ([19, 15], [15, 19]), ([20, 18, 15], [15, 20]), ([18, 21, 15], [15, 18, 21]), ([15, 22, 12], [12, 15, 22]), ([12, 23], [12, 23])])
def spec_FairOk.B9 : List Nat := [0, 1, 3, 0, 8, 31, 0, 64, 255, 511, 1023, 2047, 4095, 8191, 16383, 32767, 65535, 131071, 262143, 65535, 589823, 2097151, 4194303, 8388607, 16777215]
theorem spec_FairOk.tab9 : rtab .any (opsOf Try.f113 9) = spec_FairOk.T9 := by kernel_rfl
theorem spec_FairOk.bits9 : waitsOk spec_FairOk.T9.2 spec_FairOk.B9 = true := by kernel_rfl
set_option maxHeartbeats 8000000 in
set_option maxRecDepth 100000 in
theorem spec_FairOk.calls (k : Nat) (a0_0 : Int) (a0_1 : Int) (a0_2 : Int) (a0_3 : Int) (A0_4 : Option Addr) (c0_4 : Nat) (l0_4 : List (S136)) (r : Bool) (w : World) (hr0_4 : Kd.C k136 w A0_4 l0_4.length l0_4) (hc0_4 : l0_4.length ≤ c0_4) (h : spec_FairOk.f k a0_0 a0_1 a0_2 a0_3 l0_4 = some r) :
    Calls Try.prog 113 #[.agg #[.int .i64 a0_0, .int .i64 a0_1, .int .i64 a0_2, .int .i64 a0_3, .slice A0_4 l0_4.length c0_4]] w fun e w' => e = .returned (.bool r) ∧ Below w.heap.size w w' := by
  have hu52 := Try.underlying52
  have hu49 := Try.underlying49
  have hu136 := Try.underlying136
  have HR0_4 := Aside0.mk hr0_4
  have HC0_4 := Aside0.mk hc0_4
  clear hr0_4 hc0_4
  have HB := Aside0.mk (Below.refl w.heap.size w)
  have H : ((spec_Narrow.f a0_1 a0_2 a0_3 a0_0).bind fun t141 => (if t141 = true then ((spec_VecTop.f a0_1 a0_2 a0_3).bind fun t142 => (if t142 > 100000000000 then (spec_FairOk.j0 k true a0_0 a0_1 a0_2 a0_3 l0_4) else (spec_FairOk.j0 k (decide ((l0_4.length : Int) > 48)) a0_0 a0_1 a0_2 a0_3 l0_4))) else (spec_FairOk.j0 k true a0_0 a0_1 a0_2 a0_3 l0_4))) = some r := h
  clear h
  have HC2 := Aside0.mk H
  clear H
  go_enter Try.func113, Try.ntmps113
  go_upto_region 1 with (first | ((with_reducible refine gate_dst (N := 1) rfl ?_); (try (refine gate_guard (by rfl) ?_; dsimp only)); refine box_event ?hg (N := 1) ?hd (cs := #[.int .i64 a0_0, .int .i64 a0_1, .int .i64 a0_2, .int .i64 a0_3, .slice A0_4 l0_4.length c0_4]) (t := 52) ?hr ?_; (case hd => rfl); (case hg => rfl); (case hr => first | (go_simp; done) | (go_simp; rfl)); intro gb140 hg w3 hbox hb; have n0_ := Aside0.mk (below_step Z42 hb); have n1_ := Aside0.mk (hbox); have n2_ := Aside0.mk ((by rw [hg]; exact (below_size Z42) : w.heap.size ≤ gb140)); have n3_ := Aside0.mk ((by rw [hg]; exact (below_size Z42) : w.heap.size ≤ gb140)); clear HB; have HB := n0_; have BK140 := n1_; have GW140 := n2_; have GE140 := n3_; clear n0_ n1_ n2_ n3_; clear hb hbox hg))
  (try simp only [Act.put, List.setIfInBounds_toArray, List.set_cons_zero, List.set_cons_succ])
  go_cut [22] (fun v22 wc => ∃ (kq : Nat) (x22_1 : Bool), v22 = .bool x22_1 ∧ Aside0 (spec_FairOk.j0 kq x22_1 a0_0 a0_1 a0_2 a0_3 l0_4 = some r) ∧ Aside0 (kq ≤ k) ∧ Aside0 (wc.heap[gb140]? = some (.cells #[.int .i64 a0_0, .int .i64 a0_1, .int .i64 a0_2, .int .i64 a0_3, (.slice A0_4 l0_4.length c0_4)] 52 (0, 0))) ∧ Aside0 (Below w.heap.size w wc))
  case first =>
    have H := HC2.out
    clear HC2
    replace H := Option.bind_eq_some_iff.mp H
    obtain ⟨t141, A40, H⟩ := H
    replace H : (if t141 = true then ((spec_VecTop.f a0_1 a0_2 a0_3).bind fun t142 => (if t142 > 100000000000 then (spec_FairOk.j0 k true a0_0 a0_1 a0_2 a0_3 l0_4) else (spec_FairOk.j0 k (decide ((l0_4.length : Int) > 48)) a0_0 a0_1 a0_2 a0_3 l0_4))) else (spec_FairOk.j0 k true a0_0 a0_1 a0_2 a0_3 l0_4)) = some r := H
    have A4 := Aside0.mk A40
    clear A40
    by_cases c5 : t141 = true
    · subst c5
      have H1 : ((spec_VecTop.f a0_1 a0_2 a0_3).bind fun t142 => (if t142 > 100000000000 then (spec_FairOk.j0 k true a0_0 a0_1 a0_2 a0_3 l0_4) else (spec_FairOk.j0 k (decide ((l0_4.length : Int) > 48)) a0_0 a0_1 a0_2 a0_3 l0_4))) = some r := by rw [if_pos rfl] at H; exact H
      clear H
      have H := H1
      clear H1
      replace H := Option.bind_eq_some_iff.mp H
      obtain ⟨t142, A60, H⟩ := H
      replace H : (if t142 > 100000000000 then (spec_FairOk.j0 k true a0_0 a0_1 a0_2 a0_3 l0_4) else (spec_FairOk.j0 k (decide ((l0_4.length : Int) > 48)) a0_0 a0_1 a0_2 a0_3 l0_4)) = some r := H
      have A6 := Aside0.mk A60
      clear A60
      by_cases c7 : t142 > 100000000000
      · rw [if_pos c7] at H
        have c7b0 : decide (100000000000 < t142) = true := decide_eq_true c7
        clear c7
        (first | rw [c7b0] | (simp only [i64_w, i32_w]; rw [c7b0]) | (have cz_ := c7b0; simp only [bne, gt_iff_lt, Int.natCast_pos] at cz_; first | rw [cz_] | (simp only [i64_w, i32_w]; rw [cz_])) | skip)
        have H' := Aside0.mk H
        clear H
        have hcz8_0 : w3.cell? ⟨gb140, 0, none⟩ = some (.int .i64 a0_0) := (blk_cell BK140.out 0).trans rfl
        have hcz8_1 : w3.cell? ⟨gb140, 1, none⟩ = some (.int .i64 a0_1) := (blk_cell BK140.out 1).trans rfl
        have hcz8_2 : w3.cell? ⟨gb140, 2, none⟩ = some (.int .i64 a0_2) := (blk_cell BK140.out 2).trans rfl
        have hcz8_3 : w3.cell? ⟨gb140, 3, none⟩ = some (.int .i64 a0_3) := (blk_cell BK140.out 3).trans rfl
        have hcz8_4 : w3.cell? ⟨gb140, 4, none⟩ = some (.slice A0_4 l0_4.length c0_4) := (blk_cell BK140.out 4).trans rfl
        have hfz8_0 := blk_frozen BK140.out 0
        have hfz8_1 := blk_frozen BK140.out 1
        have hfz8_2 := blk_frozen BK140.out 2
        have hfz8_3 := blk_frozen BK140.out 3
        have hfz8_4 := blk_frozen BK140.out 4
        go_wp2_with (first | ((with_reducible refine gate_callee (f := 151) rfl ?_); refine goesL_ (some 9) rfl rfl Try.func151 (by kernel_rfl) rfl #[.agg #[.int .i64 a0_1, .int .i64 a0_2, .int .i64 a0_3], .int .i64 a0_0] rfl Z41 ?_; (with_reducible refine (spec_Narrow.calls a0_1 a0_2 a0_3 a0_0 true _ A4.out).mono ?_); rintro e w9 ⟨rfl, hb⟩; refine ⟨_, rfl, ?_⟩; have n0_ := Aside0.mk (blk_below (g := gb140) (o := .cells #[.int .i64 a0_0, .int .i64 a0_1, .int .i64 a0_2, .int .i64 a0_3, .slice A0_4 l0_4.length c0_4] 52 (0, 0)) Z59 hb); have n1_ := Aside0.mk (below_step Z27 hb); clear BK140; clear HB; have BK140 := n0_; have HB := n1_; clear n0_ n1_; (try clear hb); (try clear hb2); (try clear hk); (try clear hi); have hcz10_0 : w9.cell? ⟨gb140, 0, none⟩ = some (.int .i64 a0_0) := (blk_cell BK140.out 0).trans rfl; have hcz10_1 : w9.cell? ⟨gb140, 1, none⟩ = some (.int .i64 a0_1) := (blk_cell BK140.out 1).trans rfl; have hcz10_2 : w9.cell? ⟨gb140, 2, none⟩ = some (.int .i64 a0_2) := (blk_cell BK140.out 2).trans rfl; have hcz10_3 : w9.cell? ⟨gb140, 3, none⟩ = some (.int .i64 a0_3) := (blk_cell BK140.out 3).trans rfl; have hcz10_4 : w9.cell? ⟨gb140, 4, none⟩ = some (.slice A0_4 l0_4.length c0_4) := (blk_cell BK140.out 4).trans rfl; have hfz10_0 := blk_frozen BK140.out 0; have hfz10_1 := blk_frozen BK140.out 1; have hfz10_2 := blk_frozen BK140.out 2; have hfz10_3 := blk_frozen BK140.out 3; have hfz10_4 := blk_frozen BK140.out 4) | (go_at_call 96; (with_reducible refine (spec_VecTop.calls a0_1 a0_2 a0_3 t142 _ A6.out).mono ?_); rintro e w11 ⟨rfl, hb⟩; have n0_ := Aside0.mk (blk_below (g := gb140) (o := .cells #[.int .i64 a0_0, .int .i64 a0_1, .int .i64 a0_2, .int .i64 a0_3, .slice A0_4 l0_4.length c0_4] 52 (0, 0)) Z59 hb); have n1_ := Aside0.mk (below_step Z27 hb); clear BK140; clear HB; have BK140 := n0_; have HB := n1_; clear n0_ n1_; (try clear hb); (try clear hb2); (try clear hk); (try clear hi)))
        go_meet
        case rel => exact ⟨_, (true), Z98, H', ⟨by first | omega | exact Nat.le_refl _⟩, ⟨by (with_reducible repeat (first | refine blk_drewN ?_ _ | refine blk_drew ?_ | refine blk_alloc ?_ _)); exact BK140.out⟩, ⟨by repeat (first | (with_reducible first | exact HB.out | apply below_alloc | apply pw_below_drewN | apply below_drew1 | refine below_set ?_ GE140.out) | exact HB.out)⟩⟩
      · rw [if_neg c7] at H
        have c7b0 : decide (100000000000 < t142) = false := decide_eq_false c7
        clear c7
        (first | rw [c7b0] | (simp only [i64_w, i32_w]; rw [c7b0]) | (have cz_ := c7b0; simp only [bne, gt_iff_lt, Int.natCast_pos] at cz_; first | rw [cz_] | (simp only [i64_w, i32_w]; rw [cz_])) | skip)
        have H' := Aside0.mk H
        clear H
        have hcz12_0 : w3.cell? ⟨gb140, 0, none⟩ = some (.int .i64 a0_0) := (blk_cell BK140.out 0).trans rfl
        have hcz12_1 : w3.cell? ⟨gb140, 1, none⟩ = some (.int .i64 a0_1) := (blk_cell BK140.out 1).trans rfl
        have hcz12_2 : w3.cell? ⟨gb140, 2, none⟩ = some (.int .i64 a0_2) := (blk_cell BK140.out 2).trans rfl
        have hcz12_3 : w3.cell? ⟨gb140, 3, none⟩ = some (.int .i64 a0_3) := (blk_cell BK140.out 3).trans rfl
        have hcz12_4 : w3.cell? ⟨gb140, 4, none⟩ = some (.slice A0_4 l0_4.length c0_4) := (blk_cell BK140.out 4).trans rfl
        have hfz12_0 := blk_frozen BK140.out 0
        have hfz12_1 := blk_frozen BK140.out 1
        have hfz12_2 := blk_frozen BK140.out 2
        have hfz12_3 := blk_frozen BK140.out 3
        have hfz12_4 := blk_frozen BK140.out 4
        go_wp2_with (first | ((with_reducible refine gate_callee (f := 151) rfl ?_); refine goesL_ (some 9) rfl rfl Try.func151 (by kernel_rfl) rfl #[.agg #[.int .i64 a0_1, .int .i64 a0_2, .int .i64 a0_3], .int .i64 a0_0] rfl Z41 ?_; (with_reducible refine (spec_Narrow.calls a0_1 a0_2 a0_3 a0_0 true _ A4.out).mono ?_); rintro e w13 ⟨rfl, hb⟩; refine ⟨_, rfl, ?_⟩; have n0_ := Aside0.mk (blk_below (g := gb140) (o := .cells #[.int .i64 a0_0, .int .i64 a0_1, .int .i64 a0_2, .int .i64 a0_3, .slice A0_4 l0_4.length c0_4] 52 (0, 0)) Z59 hb); have n1_ := Aside0.mk (below_step Z27 hb); clear BK140; clear HB; have BK140 := n0_; have HB := n1_; clear n0_ n1_; (try clear hb); (try clear hb2); (try clear hk); (try clear hi); have hcz14_0 : w13.cell? ⟨gb140, 0, none⟩ = some (.int .i64 a0_0) := (blk_cell BK140.out 0).trans rfl; have hcz14_1 : w13.cell? ⟨gb140, 1, none⟩ = some (.int .i64 a0_1) := (blk_cell BK140.out 1).trans rfl; have hcz14_2 : w13.cell? ⟨gb140, 2, none⟩ = some (.int .i64 a0_2) := (blk_cell BK140.out 2).trans rfl; have hcz14_3 : w13.cell? ⟨gb140, 3, none⟩ = some (.int .i64 a0_3) := (blk_cell BK140.out 3).trans rfl; have hcz14_4 : w13.cell? ⟨gb140, 4, none⟩ = some (.slice A0_4 l0_4.length c0_4) := (blk_cell BK140.out 4).trans rfl; have hfz14_0 := blk_frozen BK140.out 0; have hfz14_1 := blk_frozen BK140.out 1; have hfz14_2 := blk_frozen BK140.out 2; have hfz14_3 := blk_frozen BK140.out 3; have hfz14_4 := blk_frozen BK140.out 4) | (go_at_call 96; (with_reducible refine (spec_VecTop.calls a0_1 a0_2 a0_3 t142 _ A6.out).mono ?_); rintro e w15 ⟨rfl, hb⟩; have n0_ := Aside0.mk (blk_below (g := gb140) (o := .cells #[.int .i64 a0_0, .int .i64 a0_1, .int .i64 a0_2, .int .i64 a0_3, .slice A0_4 l0_4.length c0_4] 52 (0, 0)) Z59 hb); have n1_ := Aside0.mk (below_step Z27 hb); clear BK140; clear HB; have BK140 := n0_; have HB := n1_; clear n0_ n1_; (try clear hb); (try clear hb2); (try clear hk); (try clear hi); have hcz16_0 : w15.cell? ⟨gb140, 0, none⟩ = some (.int .i64 a0_0) := (blk_cell BK140.out 0).trans rfl; have hcz16_1 : w15.cell? ⟨gb140, 1, none⟩ = some (.int .i64 a0_1) := (blk_cell BK140.out 1).trans rfl; have hcz16_2 : w15.cell? ⟨gb140, 2, none⟩ = some (.int .i64 a0_2) := (blk_cell BK140.out 2).trans rfl; have hcz16_3 : w15.cell? ⟨gb140, 3, none⟩ = some (.int .i64 a0_3) := (blk_cell BK140.out 3).trans rfl; have hcz16_4 : w15.cell? ⟨gb140, 4, none⟩ = some (.slice A0_4 l0_4.length c0_4) := (blk_cell BK140.out 4).trans rfl; have hfz16_0 := blk_frozen BK140.out 0; have hfz16_1 := blk_frozen BK140.out 1; have hfz16_2 := blk_frozen BK140.out 2; have hfz16_3 := blk_frozen BK140.out 3; have hfz16_4 := blk_frozen BK140.out 4))
        go_meet
        case rel => exact ⟨_, (decide ((l0_4.length : Int) > 48)), Z98, H', ⟨by first | omega | exact Nat.le_refl _⟩, ⟨by (with_reducible repeat (first | refine blk_drewN ?_ _ | refine blk_drew ?_ | refine blk_alloc ?_ _)); exact BK140.out⟩, ⟨by repeat (first | (with_reducible first | exact HB.out | apply below_alloc | apply pw_below_drewN | apply below_drew1 | refine below_set ?_ GE140.out) | exact HB.out)⟩⟩
    · replace c5 := Bool.eq_false_iff.mpr c5
      subst c5
      have H1 : (spec_FairOk.j0 k true a0_0 a0_1 a0_2 a0_3 l0_4) = some r := by rw [if_neg (show ¬ (false = true) by decide)] at H; exact H
      clear H
      have H := H1
      clear H1
      have H' := Aside0.mk H
      clear H
      have hcz17_0 : w3.cell? ⟨gb140, 0, none⟩ = some (.int .i64 a0_0) := (blk_cell BK140.out 0).trans rfl
      have hcz17_1 : w3.cell? ⟨gb140, 1, none⟩ = some (.int .i64 a0_1) := (blk_cell BK140.out 1).trans rfl
      have hcz17_2 : w3.cell? ⟨gb140, 2, none⟩ = some (.int .i64 a0_2) := (blk_cell BK140.out 2).trans rfl
      have hcz17_3 : w3.cell? ⟨gb140, 3, none⟩ = some (.int .i64 a0_3) := (blk_cell BK140.out 3).trans rfl
      have hcz17_4 : w3.cell? ⟨gb140, 4, none⟩ = some (.slice A0_4 l0_4.length c0_4) := (blk_cell BK140.out 4).trans rfl
      have hfz17_0 := blk_frozen BK140.out 0
      have hfz17_1 := blk_frozen BK140.out 1
      have hfz17_2 := blk_frozen BK140.out 2
      have hfz17_3 := blk_frozen BK140.out 3
      have hfz17_4 := blk_frozen BK140.out 4
      go_wp2_with (first | ((with_reducible refine gate_callee (f := 151) rfl ?_); refine goesL_ (some 9) rfl rfl Try.func151 (by kernel_rfl) rfl #[.agg #[.int .i64 a0_1, .int .i64 a0_2, .int .i64 a0_3], .int .i64 a0_0] rfl Z41 ?_; (with_reducible refine (spec_Narrow.calls a0_1 a0_2 a0_3 a0_0 false _ A4.out).mono ?_); rintro e w18 ⟨rfl, hb⟩; refine ⟨_, rfl, ?_⟩; have n0_ := Aside0.mk (blk_below (g := gb140) (o := .cells #[.int .i64 a0_0, .int .i64 a0_1, .int .i64 a0_2, .int .i64 a0_3, .slice A0_4 l0_4.length c0_4] 52 (0, 0)) Z59 hb); have n1_ := Aside0.mk (below_step Z27 hb); clear BK140; clear HB; have BK140 := n0_; have HB := n1_; clear n0_ n1_; (try clear hb); (try clear hb2); (try clear hk); (try clear hi)))
      go_meet
      case rel => exact ⟨_, (true), Z98, H', ⟨by first | omega | exact Nat.le_refl _⟩, ⟨by (with_reducible repeat (first | refine blk_drewN ?_ _ | refine blk_drew ?_ | refine blk_alloc ?_ _)); exact BK140.out⟩, ⟨by repeat (first | (with_reducible first | exact HB.out | apply below_alloc | apply pw_below_drewN | apply below_drew1 | refine below_set ?_ GE140.out) | exact HB.out)⟩⟩
  case rest =>
    clear HC2
    try clear c1
    try clear p2
    try clear c5
    try clear c7
    try clear c7b0
    try clear c11
    try clear c15
    try clear hcz10_0
    try clear hcz10_1
    try clear hcz10_2
    try clear hcz10_3
    try clear hcz10_4
    try clear hcz12_0
    try clear hcz12_1
    try clear hcz12_2
    try clear hcz12_3
    try clear hcz12_4
    try clear hcz14_0
    try clear hcz14_1
    try clear hcz14_2
    try clear hcz14_3
    try clear hcz14_4
    try clear hcz16_0
    try clear hcz16_1
    try clear hcz16_2
    try clear hcz16_3
    try clear hcz16_4
    try clear hcz17_0
    try clear hcz17_1
    try clear hcz17_2
    try clear hcz17_3
    try clear hcz17_4
    try clear hcz8_0
    try clear hcz8_1
    try clear hcz8_2
    try clear hcz8_3
    try clear hcz8_4
    try clear hfz10_0
    try clear hfz10_1
    try clear hfz10_2
    try clear hfz10_3
    try clear hfz10_4
    try clear hfz12_0
    try clear hfz12_1
    try clear hfz12_2
    try clear hfz12_3
    try clear hfz12_4
    try clear hfz14_0
    try clear hfz14_1
    try clear hfz14_2
    try clear hfz14_3
    try clear hfz14_4
    try clear hfz16_0
    try clear hfz16_1
    try clear hfz16_2
    try clear hfz16_3
    try clear hfz16_4
    try clear hfz17_0
    try clear hfz17_1
    try clear hfz17_2
    try clear hfz17_3
    try clear hfz17_4
    try clear hfz8_0
    try clear hfz8_1
    try clear hfz8_2
    try clear hfz8_3
    try clear hfz8_4
    obtain ⟨kq, x22_1, rfl, HA, HJ1, BK140, HB⟩ := hcut
    cases kq with
    | zero => exact absurd HA.out (by simp [spec_FairOk.j0])
    | succ kj1 =>
      have H := HA.out
      clear HA
      simp only [spec_FairOk.j0] at H
      by_cases c19 : x22_1 = true
      · subst c19
        have H1 : (some false) = some r := by rw [if_pos rfl] at H; exact H
        clear H
        have H := H1
        clear H1
        obtain rfl := Option.some.inj H
        go_wp2
        go_ret
        exact ⟨by first | rfl | (simp [errW_none, errW_some] <;> rfl) | (simp [*, errW_none, errW_some] <;> rfl), by repeat (first | (with_reducible first | exact HB.out | apply below_alloc | apply pw_below_drewN | apply below_drew1 | refine below_set ?_ GE140.out) | exact HB.out)⟩
      · replace c19 := Bool.eq_false_iff.mpr c19
        subst c19
        have H1 : (spec_FairOk.l0 kj1 0 a0_0 a0_1 a0_2 a0_3 l0_4) = some r := by rw [if_neg (show ¬ (false = true) by decide)] at H; exact H
        clear H
        have H := H1
        clear H1
        have H' := Aside0.mk H
        clear H
        go_wp2
        go_loopg [3] kj1 (fun kq v3 w' => ∃ (x3_2 : Int), v3 = .int .i64 x3_2 ∧ Aside0 (spec_FairOk.l0 kq x3_2 a0_0 a0_1 a0_2 a0_3 l0_4 = some r) ∧ Aside0 (kq ≤ kj1) ∧ Aside0 (w'.heap[gb140]? = some (.cells #[.int .i64 a0_0, .int .i64 a0_1, .int .i64 a0_2, .int .i64 a0_3, (.slice A0_4 l0_4.length c0_4)] 52 (0, 0))) ∧ Aside0 (Below w.heap.size w w'))
        case atStart => exact ⟨(0), Z98, H', ⟨Nat.le_refl _⟩, ⟨by (with_reducible repeat (first | refine blk_drewN ?_ _ | refine blk_drew ?_ | refine blk_alloc ?_ _)); exact BK140.out⟩, ⟨by repeat (first | (with_reducible first | exact HB.out | apply below_alloc | apply pw_below_drewN | apply below_drew1 | refine below_set ?_ GE140.out) | exact HB.out)⟩⟩
        case round =>
          clear H'
          try clear c1
          try clear p2
          try clear c5
          try clear c7
          try clear c7b0
          try clear c11
          try clear c15
          try clear c19
          try clear hcz10_0
          try clear hcz10_1
          try clear hcz10_2
          try clear hcz10_3
          try clear hcz10_4
          try clear hcz12_0
          try clear hcz12_1
          try clear hcz12_2
          try clear hcz12_3
          try clear hcz12_4
          try clear hcz14_0
          try clear hcz14_1
          try clear hcz14_2
          try clear hcz14_3
          try clear hcz14_4
          try clear hcz16_0
          try clear hcz16_1
          try clear hcz16_2
          try clear hcz16_3
          try clear hcz16_4
          try clear hcz17_0
          try clear hcz17_1
          try clear hcz17_2
          try clear hcz17_3
          try clear hcz17_4
          try clear hcz8_0
          try clear hcz8_1
          try clear hcz8_2
          try clear hcz8_3
          try clear hcz8_4
          try clear hfz10_0
          try clear hfz10_1
          try clear hfz10_2
          try clear hfz10_3
          try clear hfz10_4
          try clear hfz12_0
          try clear hfz12_1
          try clear hfz12_2
          try clear hfz12_3
          try clear hfz12_4
          try clear hfz14_0
          try clear hfz14_1
          try clear hfz14_2
          try clear hfz14_3
          try clear hfz14_4
          try clear hfz16_0
          try clear hfz16_1
          try clear hfz16_2
          try clear hfz16_3
          try clear hfz16_4
          try clear hfz17_0
          try clear hfz17_1
          try clear hfz17_2
          try clear hfz17_3
          try clear hfz17_4
          try clear hfz8_0
          try clear hfz8_1
          try clear hfz8_2
          try clear hfz8_3
          try clear hfz8_4
          try clear p2
          obtain ⟨x3_2, rfl, HA, HK2, BK140, HB⟩ := hrel
          cases gk with
          | zero => exact absurd HA.out (by simp [spec_FairOk.l0])
          | succ k2 =>
            have H := HA.out
            clear HA
            simp only [spec_FairOk.l0] at H
            by_cases c20 : x3_2 < (l0_4.length : Int)
            · rw [if_pos c20] at H
              have c20b0 : decide (x3_2 < (l0_4.length : Int)) = true := decide_eq_true c20
              clear c20
              by_cases c21 : 0 ≤ x3_2
              · rw [if_pos c21] at H
                have c21b0 : decide (0 ≤ x3_2) = true := decide_eq_true c21
                clear c21
                have HC22 := Aside0.mk H
                clear H
                have hcz23_0 : wr.cell? ⟨gb140, 0, none⟩ = some (.int .i64 a0_0) := (blk_cell BK140.out 0).trans rfl
                have hcz23_1 : wr.cell? ⟨gb140, 1, none⟩ = some (.int .i64 a0_1) := (blk_cell BK140.out 1).trans rfl
                have hcz23_2 : wr.cell? ⟨gb140, 2, none⟩ = some (.int .i64 a0_2) := (blk_cell BK140.out 2).trans rfl
                have hcz23_3 : wr.cell? ⟨gb140, 3, none⟩ = some (.int .i64 a0_3) := (blk_cell BK140.out 3).trans rfl
                have hcz23_4 : wr.cell? ⟨gb140, 4, none⟩ = some (.slice A0_4 l0_4.length c0_4) := (blk_cell BK140.out 4).trans rfl
                have hfz23_0 := blk_frozen BK140.out 0
                have hfz23_1 := blk_frozen BK140.out 1
                have hfz23_2 := blk_frozen BK140.out 2
                have hfz23_3 := blk_frozen BK140.out 3
                have hfz23_4 := blk_frozen BK140.out 4
                have p143 : 0 ≤ (x3_2 : Int) := of_decide_eq_true Z97
                have q143 : x3_2 < (l0_4.length : Int) := of_decide_eq_true Z97
                obtain ⟨ad143, e143, hx143_0, hx143_1, hx143_2, hx143_3, hx143_4, hx143_5⟩ := at_T136 HR0_4.out x3_2 p143 q143
                cases e143
                replace hx143_0 := (HB.out.cell (World.block_lt_of_cell? w _ hx143_0)).trans hx143_0
                replace hx143_1 := (HB.out.cell (World.block_lt_of_cell? w _ hx143_1)).trans hx143_1
                replace hx143_2 := (HB.out.cell (World.block_lt_of_cell? w _ hx143_2)).trans hx143_2
                replace hx143_3 := (HB.out.cell (World.block_lt_of_cell? w _ hx143_3)).trans hx143_3
                replace hx143_4 := (HB.out.cell (World.block_lt_of_cell? w _ hx143_4)).trans hx143_4
                replace hx143_5 := (HB.out.cell (World.block_lt_of_cell? w _ hx143_5)).trans hx143_5
                replace p143 := eq_true p143
                replace q143 := eq_true q143
                go_upto_region 7 with (first | ((with_reducible refine gate_dst (N := 4) rfl ?_); (try (refine gate_guard (by rfl) ?_; dsimp only)); refine box_event ?hg (N := 4) ?hd (cs := #[.int .i64 0, .int .i64 0, .bool false, .int .i64 0, .int .i64 0, .int .i64 0]) (t := 136) ?hr ?_; (case hd => rfl); (case hg => rfl); (case hr => first | (go_simp; done) | (go_simp; rfl)); intro gb144 hg w24 hbox hb; have n0_ := Aside0.mk (blk_below (g := gb140) (o := .cells #[.int .i64 a0_0, .int .i64 a0_1, .int .i64 a0_2, .int .i64 a0_3, .slice (some ad143) l0_4.length c0_4] 52 (0, 0)) Z59 hb); have n1_ := Aside0.mk (below_step Z27 hb); have n2_ := Aside0.mk (hbox); have n3_ := Aside0.mk ((by rw [hg]; exact (below_size Z27) : w.heap.size ≤ gb144)); have n4_ := Aside0.mk ((by rw [hg]; exact (below_size Z27) : w.heap.size ≤ gb144)); have n5_ := Aside0.mk ((by rw [hg]; exact Nat.ne_of_lt (blk_lt (g := gb140) (o := .cells #[.int .i64 a0_0, .int .i64 a0_1, .int .i64 a0_2, .int .i64 a0_3, .slice (some ad143) l0_4.length c0_4] 52 (0, 0)) Z59) : gb140 ≠ gb144)); have n6_ := Aside0.mk ((by rw [hg]; exact Nat.ne_of_gt (blk_lt (g := gb140) (o := .cells #[.int .i64 a0_0, .int .i64 a0_1, .int .i64 a0_2, .int .i64 a0_3, .slice (some ad143) l0_4.length c0_4] 52 (0, 0)) Z59) : gb144 ≠ gb140)); clear BK140; clear HB; have BK140 := n0_; have HB := n1_; have BK144 := n2_; have GW144 := n3_; have GE144 := n4_; have NB140_144 := n5_; have NB144_140 := n6_; clear n0_ n1_ n2_ n3_ n4_ n5_ n6_; clear hb hbox hg; (try have hnb25 := NB144_140.out); (try have hnc25 := NB140_144.out); have hcz26_0 : w24.cell? ⟨gb144, 0, none⟩ = some (.int .i64 0) := (blk_cell BK144.out 0).trans rfl; have hcz26_1 : w24.cell? ⟨gb144, 1, none⟩ = some (.int .i64 0) := (blk_cell BK144.out 1).trans rfl; have hcz26_2 : w24.cell? ⟨gb144, 2, none⟩ = some (.bool false) := (blk_cell BK144.out 2).trans rfl; have hcz26_3 : w24.cell? ⟨gb144, 3, none⟩ = some (.int .i64 0) := (blk_cell BK144.out 3).trans rfl; have hcz26_4 : w24.cell? ⟨gb144, 4, none⟩ = some (.int .i64 0) := (blk_cell BK144.out 4).trans rfl; have hcz26_5 : w24.cell? ⟨gb144, 5, none⟩ = some (.int .i64 0) := (blk_cell BK144.out 5).trans rfl; have hfz26_0 := blk_frozen BK144.out 0; have hfz26_1 := blk_frozen BK144.out 1; have hfz26_2 := blk_frozen BK144.out 2; have hfz26_3 := blk_frozen BK144.out 3; have hfz26_4 := blk_frozen BK144.out 4; have hfz26_5 := blk_frozen BK144.out 5))
                (try simp only [Act.put, List.setIfInBounds_toArray, List.set_cons_zero, List.set_cons_succ])
                go_cut [72] (fun v72 wc => ∃ (kq : Nat) (x72_21 : Bool), v72 = .bool x72_21 ∧ Aside0 (spec_FairOk.j2 kq x3_2 x72_21 a0_0 a0_1 a0_2 a0_3 l0_4 ((rd_T136 l0_4 x3_2).f0) ((rd_T136 l0_4 x3_2).f1) ((rd_T136 l0_4 x3_2).f2) ((rd_T136 l0_4 x3_2).f3.f0) ((rd_T136 l0_4 x3_2).f3.f1) ((rd_T136 l0_4 x3_2).f3.f2) = some r) ∧ Aside0 (kq ≤ k2) ∧ Aside0 (wc.heap[gb140]? = some (.cells #[.int .i64 a0_0, .int .i64 a0_1, .int .i64 a0_2, .int .i64 a0_3, (.slice (some ad143) l0_4.length c0_4)] 52 (0, 0))) ∧ Aside0 (wc.heap[gb144]? = some (.cells #[.int .i64 ((rd_T136 l0_4 x3_2).f0), .int .i64 ((rd_T136 l0_4 x3_2).f1), .bool ((rd_T136 l0_4 x3_2).f2), .int .i64 ((rd_T136 l0_4 x3_2).f3.f0), .int .i64 ((rd_T136 l0_4 x3_2).f3.f1), .int .i64 ((rd_T136 l0_4 x3_2).f3.f2)] 136 (0, 0))) ∧ Aside0 (Below w.heap.size w wc))
                case first =>
                  have H := HC22.out
                  clear HC22
                  by_cases c27 : ((rd_T136 l0_4 x3_2).f0) < 0
                  · rw [if_pos c27] at H
                    have c27b0 : decide (((rd_T136 l0_4 x3_2).f0) < 0) = true := decide_eq_true c27
                    clear c27
                    (first | rw [c27b0] | (simp only [i64_w, i32_w]; rw [c27b0]) | (have cz_ := c27b0; simp only [bne, gt_iff_lt, Int.natCast_pos] at cz_; first | rw [cz_] | (simp only [i64_w, i32_w]; rw [cz_])) | skip)
                    have H' := Aside0.mk H
                    clear H
                    try go_wp2
                    have n0_ : Aside0 (((((((w24.setCell ⟨gb144, 0, none⟩ (.int .i64 ((rd_T136 l0_4 x3_2).f0))).setCell ⟨gb144, 1, none⟩ (.int .i64 ((rd_T136 l0_4 x3_2).f1))).setCell ⟨gb144, 2, none⟩ (.bool ((rd_T136 l0_4 x3_2).f2))).setCell ⟨gb144, 3, none⟩ (.int .i64 ((rd_T136 l0_4 x3_2).f3.f0))).setCell ⟨gb144, 4, none⟩ (.int .i64 ((rd_T136 l0_4 x3_2).f3.f1))).setCell ⟨gb144, 5, none⟩ (.int .i64 ((rd_T136 l0_4 x3_2).f3.f2))).heap[gb140]? = some (.cells #[.int .i64 a0_0, .int .i64 a0_1, .int .i64 a0_2, .int .i64 a0_3, .slice (some ad143) l0_4.length c0_4] 52 (0, 0))) := ⟨by (with_reducible repeat (first | refine blk_drewN ?_ _ | refine blk_drew ?_ | refine blk_alloc ?_ _)); refine blk_far ?_ NB140_144.out _; (with_reducible repeat (first | refine blk_drewN ?_ _ | refine blk_drew ?_ | refine blk_alloc ?_ _)); refine blk_far ?_ NB140_144.out _; (with_reducible repeat (first | refine blk_drewN ?_ _ | refine blk_drew ?_ | refine blk_alloc ?_ _)); refine blk_far ?_ NB140_144.out _; (with_reducible repeat (first | refine blk_drewN ?_ _ | refine blk_drew ?_ | refine blk_alloc ?_ _)); refine blk_far ?_ NB140_144.out _; (with_reducible repeat (first | refine blk_drewN ?_ _ | refine blk_drew ?_ | refine blk_alloc ?_ _)); refine blk_far ?_ NB140_144.out _; (with_reducible repeat (first | refine blk_drewN ?_ _ | refine blk_drew ?_ | refine blk_alloc ?_ _)); refine blk_far ?_ NB140_144.out _; (with_reducible repeat (first | refine blk_drewN ?_ _ | refine blk_drew ?_ | refine blk_alloc ?_ _)); exact BK140.out⟩
                    have n1_ : Aside0 (((((((w24.setCell ⟨gb144, 0, none⟩ (.int .i64 ((rd_T136 l0_4 x3_2).f0))).setCell ⟨gb144, 1, none⟩ (.int .i64 ((rd_T136 l0_4 x3_2).f1))).setCell ⟨gb144, 2, none⟩ (.bool ((rd_T136 l0_4 x3_2).f2))).setCell ⟨gb144, 3, none⟩ (.int .i64 ((rd_T136 l0_4 x3_2).f3.f0))).setCell ⟨gb144, 4, none⟩ (.int .i64 ((rd_T136 l0_4 x3_2).f3.f1))).setCell ⟨gb144, 5, none⟩ (.int .i64 ((rd_T136 l0_4 x3_2).f3.f2))).heap[gb144]? = some (.cells #[.int .i64 ((rd_T136 l0_4 x3_2).f0), .int .i64 ((rd_T136 l0_4 x3_2).f1), .bool ((rd_T136 l0_4 x3_2).f2), .int .i64 ((rd_T136 l0_4 x3_2).f3.f0), .int .i64 ((rd_T136 l0_4 x3_2).f3.f1), .int .i64 ((rd_T136 l0_4 x3_2).f3.f2)] 136 (0, 0))) := ⟨by (with_reducible repeat (first | refine blk_drewN ?_ _ | refine blk_drew ?_ | refine blk_alloc ?_ _)); refine blk_put (cs := #[.int .i64 ((rd_T136 l0_4 x3_2).f0), .int .i64 ((rd_T136 l0_4 x3_2).f1), .bool ((rd_T136 l0_4 x3_2).f2), .int .i64 ((rd_T136 l0_4 x3_2).f3.f0), .int .i64 ((rd_T136 l0_4 x3_2).f3.f1), .int .i64 0]) ?_ 5 _ rfl; (with_reducible repeat (first | refine blk_drewN ?_ _ | refine blk_drew ?_ | refine blk_alloc ?_ _)); refine blk_put (cs := #[.int .i64 ((rd_T136 l0_4 x3_2).f0), .int .i64 ((rd_T136 l0_4 x3_2).f1), .bool ((rd_T136 l0_4 x3_2).f2), .int .i64 ((rd_T136 l0_4 x3_2).f3.f0), .int .i64 0, .int .i64 0]) ?_ 4 _ rfl; (with_reducible repeat (first | refine blk_drewN ?_ _ | refine blk_drew ?_ | refine blk_alloc ?_ _)); refine blk_put (cs := #[.int .i64 ((rd_T136 l0_4 x3_2).f0), .int .i64 ((rd_T136 l0_4 x3_2).f1), .bool ((rd_T136 l0_4 x3_2).f2), .int .i64 0, .int .i64 0, .int .i64 0]) ?_ 3 _ rfl; (with_reducible repeat (first | refine blk_drewN ?_ _ | refine blk_drew ?_ | refine blk_alloc ?_ _)); refine blk_put (cs := #[.int .i64 ((rd_T136 l0_4 x3_2).f0), .int .i64 ((rd_T136 l0_4 x3_2).f1), .bool false, .int .i64 0, .int .i64 0, .int .i64 0]) ?_ 2 _ rfl; (with_reducible repeat (first | refine blk_drewN ?_ _ | refine blk_drew ?_ | refine blk_alloc ?_ _)); refine blk_put (cs := #[.int .i64 ((rd_T136 l0_4 x3_2).f0), .int .i64 0, .bool false, .int .i64 0, .int .i64 0, .int .i64 0]) ?_ 1 _ rfl; (with_reducible repeat (first | refine blk_drewN ?_ _ | refine blk_drew ?_ | refine blk_alloc ?_ _)); refine blk_put (cs := #[.int .i64 0, .int .i64 0, .bool false, .int .i64 0, .int .i64 0, .int .i64 0]) ?_ 0 _ rfl; (with_reducible repeat (first | refine blk_drewN ?_ _ | refine blk_drew ?_ | refine blk_alloc ?_ _)); exact BK144.out⟩
                    have n2_ : Aside0 (Below w.heap.size w ((((((w24.setCell ⟨gb144, 0, none⟩ (.int .i64 ((rd_T136 l0_4 x3_2).f0))).setCell ⟨gb144, 1, none⟩ (.int .i64 ((rd_T136 l0_4 x3_2).f1))).setCell ⟨gb144, 2, none⟩ (.bool ((rd_T136 l0_4 x3_2).f2))).setCell ⟨gb144, 3, none⟩ (.int .i64 ((rd_T136 l0_4 x3_2).f3.f0))).setCell ⟨gb144, 4, none⟩ (.int .i64 ((rd_T136 l0_4 x3_2).f3.f1))).setCell ⟨gb144, 5, none⟩ (.int .i64 ((rd_T136 l0_4 x3_2).f3.f2)))) := ⟨by repeat (first | (with_reducible first | exact HB.out | apply below_alloc | apply pw_below_drewN | apply below_drew1 | refine below_set ?_ GE140.out | refine below_set ?_ GE144.out) | exact HB.out)⟩
                    (try clear BK140)
                    (try clear BK144)
                    (try clear HB)
                    generalize ((((((w24.setCell ⟨gb144, 0, none⟩ (.int .i64 ((rd_T136 l0_4 x3_2).f0))).setCell ⟨gb144, 1, none⟩ (.int .i64 ((rd_T136 l0_4 x3_2).f1))).setCell ⟨gb144, 2, none⟩ (.bool ((rd_T136 l0_4 x3_2).f2))).setCell ⟨gb144, 3, none⟩ (.int .i64 ((rd_T136 l0_4 x3_2).f3.f0))).setCell ⟨gb144, 4, none⟩ (.int .i64 ((rd_T136 l0_4 x3_2).f3.f1))).setCell ⟨gb144, 5, none⟩ (.int .i64 ((rd_T136 l0_4 x3_2).f3.f2))) = w28 at n0_ n1_ n2_ ⊢
                    have BK140 := n0_
                    have BK144 := n1_
                    have HB := n2_
                    clear n0_ n1_ n2_
                    have n0_ := Aside0.mk (blk_drew BK140.out)
                    have n1_ := Aside0.mk (blk_drew BK144.out)
                    have n2_ := Aside0.mk (below_drew1 HB.out)
                    clear BK140
                    clear BK144
                    clear HB
                    have BK140 := n0_
                    have BK144 := n1_
                    have HB := n2_
                    clear n0_ n1_ n2_
                    refine start_ (n := 38) (S := fun w' => w'.cell? ⟨gb144, 0, none⟩ = some (.int .i64 ((rd_T136 l0_4 x3_2).f0)) ∧ w'.cell? ⟨gb144, 1, none⟩ = some (.int .i64 ((rd_T136 l0_4 x3_2).f1)) ∧ w'.cell? ⟨gb144, 2, none⟩ = some (.bool ((rd_T136 l0_4 x3_2).f2)) ∧ w'.cell? ⟨gb144, 3, none⟩ = some (.int .i64 ((rd_T136 l0_4 x3_2).f3.f0)) ∧ w'.cell? ⟨gb144, 4, none⟩ = some (.int .i64 ((rd_T136 l0_4 x3_2).f3.f1)) ∧ w'.cell? ⟨gb144, 5, none⟩ = some (.int .i64 ((rd_T136 l0_4 x3_2).f3.f2))) (ds := []) (bz 38 0) (by kernel_rfl) rfl (by kernel_rfl) ⟨(blk_cell BK144.out 0).trans rfl, (blk_cell BK144.out 1).trans rfl, (blk_cell BK144.out 2).trans rfl, (blk_cell BK144.out 3).trans rfl, (blk_cell BK144.out 4).trans rfl, (blk_cell BK144.out 5).trans rfl⟩ (fun hHeld => ?_); refine with_tabW spec_FairOk.tab7 spec_FairOk.bits7 (fun HT_ HW_ => ?_)
                    generalize w28.drew = w29 at BK140 BK144 HB hHeld ⊢
                    refine px_ (i := 0) (N := some 35) (bz 38 1) (any_of HT_.out (by kernel_rfl)) ?_
                    refine tx_ (i := 1) (N := some 36) (bz 38 3) rfl rfl (take_ofW HT_.out HW_.out (by kernel_rfl)) hHeld Z95 ?_
                    refine px_ (i := 2) (N := some 37) (bz 38 7) (any_of HT_.out (by kernel_rfl)) ?_
                    refine px_ (i := 3) (N := some 38) (bz 38 15) (any_of HT_.out (by kernel_rfl)) ?_
                    refine ox_ (i := 4) (N := some 39) (bz 38 31) (any_of HT_.out (by kernel_rfl)) ?_
                    refine ox_ (i := 5) (N := some 40) (bz 38 63) (any_of HT_.out (by kernel_rfl)) ?_
                    refine ox_ (i := 6) (N := some 41) (bz 38 127) (any_of HT_.out (by kernel_rfl)) ?_
                    refine px_ (i := 7) (N := some 42) (bz 38 255) (any_of HT_.out (by kernel_rfl)) ?_
                    refine px_ (i := 8) (N := some 43) (bz 38 511) (any_of HT_.out (by kernel_rfl)) ?_
                    refine ox_ (i := 9) (N := some 44) (bz 38 1023) (any_of HT_.out (by kernel_rfl)) ?_
                    refine ox_ (i := 10) (N := some 45) (bz 38 2047) (any_of HT_.out (by kernel_rfl)) ?_
                    refine ox_ (i := 11) (N := some 46) (bz 38 4095) (any_of HT_.out (by kernel_rfl)) ?_
                    refine ox_ (i := 12) (N := some 47) (bz 38 8191) (any_of HT_.out (by kernel_rfl)) ?_
                    refine ox_ (i := 13) (N := some 48) (bz 38 16383) (any_of HT_.out (by kernel_rfl)) ?_
                    refine ox_ (i := 14) (N := some 49) (bz 38 32767) (any_of HT_.out (by kernel_rfl)) ?_
                    refine ox_ (i := 15) (N := some 50) (bz 38 65535) (any_of HT_.out (by kernel_rfl)) ?_
                    refine ox_ (i := 16) (N := some 51) (bz 38 131071) (any_of HT_.out (by kernel_rfl)) ?_
                    refine ox_ (i := 17) (N := some 52) (bz 38 262143) (any_of HT_.out (by kernel_rfl)) ?_
                    refine ox_ (i := 18) (N := some 53) (bz 38 524287) (any_of HT_.out (by kernel_rfl)) ?_
                    refine ox_ (i := 19) (N := some 54) (bz 38 1048575) (any_of HT_.out (by kernel_rfl)) ?_
                    refine ox_ (i := 20) (N := some 55) (bz 38 2097151) (any_of HT_.out (by kernel_rfl)) ?_
                    refine ox_ (i := 21) (N := some 56) (bz 38 4194303) (any_of HT_.out (by kernel_rfl)) ?_
                    refine ox_ (i := 22) (N := some 57) (bz 38 8388607) (any_of HT_.out (by kernel_rfl)) ?_
                    refine px_ (i := 23) (N := some 58) (bz 38 16777215) (any_of HT_.out (by kernel_rfl)) ?_
                    refine px_ (i := 24) (N := some 59) (bz 38 33554431) (any_of HT_.out (by kernel_rfl)) ?_
                    refine ox_ (i := 25) (N := some 60) (bz 38 67108863) (any_of HT_.out (by kernel_rfl)) ?_
                    refine ox_ (i := 26) (N := some 61) (bz 38 134217727) (any_of HT_.out (by kernel_rfl)) ?_
                    refine ox_ (i := 27) (N := some 62) (bz 38 268435455) (any_of HT_.out (by kernel_rfl)) ?_
                    refine ox_ (i := 28) (N := some 63) (bz 38 536870911) (any_of HT_.out (by kernel_rfl)) ?_
                    refine px_ (i := 29) (N := some 64) (bz 38 1073741823) (any_of HT_.out (by kernel_rfl)) ?_
                    refine px_ (i := 30) (N := some 65) (bz 38 2147483647) (any_of HT_.out (by kernel_rfl)) ?_
                    refine ox_ (i := 31) (N := some 66) (bz 38 4294967295) (any_of HT_.out (by kernel_rfl)) ?_
                    refine ox_ (i := 32) (N := some 67) (bz 38 8589934591) (any_of HT_.out (by kernel_rfl)) ?_
                    refine ox_ (i := 33) (N := some 68) (bz 38 17179869183) (any_of HT_.out (by kernel_rfl)) ?_
                    refine ox_ (i := 34) (N := some 69) (bz 38 34359738367) (any_of HT_.out (by kernel_rfl)) ?_
                    refine ox_ (i := 35) (N := some 70) (bz 38 68719476735) (any_of HT_.out (by kernel_rfl)) ?_
                    refine ox_ (i := 36) (N := some 71) (bz 38 137438953471) (any_of HT_.out (by kernel_rfl)) ?_
                    refine px_ (i := 37) (N := some 72) (bz 38 274877906943) (any_of HT_.out (by kernel_rfl)) ?_
                    refine done_ (done_of HT_.out (by kernel_rfl)) ?_
                    try go_wp2
                    go_meet
                    case rel => exact ⟨_, (true), Z98, H', ⟨by have := HJ1.out; have := HK2.out; first | omega | exact Nat.le_refl _⟩, ⟨by (with_reducible repeat (first | refine blk_drewN ?_ _ | refine blk_drew ?_ | refine blk_alloc ?_ _)); exact BK140.out⟩, ⟨by (with_reducible repeat (first | refine blk_drewN ?_ _ | refine blk_drew ?_ | refine blk_alloc ?_ _)); exact BK144.out⟩, ⟨by repeat (first | (with_reducible first | exact HB.out | apply below_alloc | apply pw_below_drewN | apply below_drew1 | refine below_set ?_ GE140.out | refine below_set ?_ GE144.out) | exact HB.out)⟩⟩
                  · rw [if_neg c27] at H
                    have c27b0 : decide (((rd_T136 l0_4 x3_2).f0) < 0) = false := decide_eq_false c27
                    clear c27
                    (first | rw [c27b0] | (simp only [i64_w, i32_w]; rw [c27b0]) | (have cz_ := c27b0; simp only [bne, gt_iff_lt, Int.natCast_pos] at cz_; first | rw [cz_] | (simp only [i64_w, i32_w]; rw [cz_])) | skip)
                    by_cases c30 : ((rd_T136 l0_4 x3_2).f0) > 9999
                    · rw [if_pos c30] at H
                      have c30b0 : decide (9999 < ((rd_T136 l0_4 x3_2).f0)) = true := decide_eq_true c30
                      clear c30
                      have H' := Aside0.mk H
                      clear H
                      try go_wp2
                      have n0_ : Aside0 (((((((w24.setCell ⟨gb144, 0, none⟩ (.int .i64 ((rd_T136 l0_4 x3_2).f0))).setCell ⟨gb144, 1, none⟩ (.int .i64 ((rd_T136 l0_4 x3_2).f1))).setCell ⟨gb144, 2, none⟩ (.bool ((rd_T136 l0_4 x3_2).f2))).setCell ⟨gb144, 3, none⟩ (.int .i64 ((rd_T136 l0_4 x3_2).f3.f0))).setCell ⟨gb144, 4, none⟩ (.int .i64 ((rd_T136 l0_4 x3_2).f3.f1))).setCell ⟨gb144, 5, none⟩ (.int .i64 ((rd_T136 l0_4 x3_2).f3.f2))).heap[gb140]? = some (.cells #[.int .i64 a0_0, .int .i64 a0_1, .int .i64 a0_2, .int .i64 a0_3, .slice (some ad143) l0_4.length c0_4] 52 (0, 0))) := ⟨by (with_reducible repeat (first | refine blk_drewN ?_ _ | refine blk_drew ?_ | refine blk_alloc ?_ _)); refine blk_far ?_ NB140_144.out _; (with_reducible repeat (first | refine blk_drewN ?_ _ | refine blk_drew ?_ | refine blk_alloc ?_ _)); refine blk_far ?_ NB140_144.out _; (with_reducible repeat (first | refine blk_drewN ?_ _ | refine blk_drew ?_ | refine blk_alloc ?_ _)); refine blk_far ?_ NB140_144.out _; (with_reducible repeat (first | refine blk_drewN ?_ _ | refine blk_drew ?_ | refine blk_alloc ?_ _)); refine blk_far ?_ NB140_144.out _; (with_reducible repeat (first | refine blk_drewN ?_ _ | refine blk_drew ?_ | refine blk_alloc ?_ _)); refine blk_far ?_ NB140_144.out _; (with_reducible repeat (first | refine blk_drewN ?_ _ | refine blk_drew ?_ | refine blk_alloc ?_ _)); refine blk_far ?_ NB140_144.out _; (with_reducible repeat (first | refine blk_drewN ?_ _ | refine blk_drew ?_ | refine blk_alloc ?_ _)); exact BK140.out⟩
                      have n1_ : Aside0 (((((((w24.setCell ⟨gb144, 0, none⟩ (.int .i64 ((rd_T136 l0_4 x3_2).f0))).setCell ⟨gb144, 1, none⟩ (.int .i64 ((rd_T136 l0_4 x3_2).f1))).setCell ⟨gb144, 2, none⟩ (.bool ((rd_T136 l0_4 x3_2).f2))).setCell ⟨gb144, 3, none⟩ (.int .i64 ((rd_T136 l0_4 x3_2).f3.f0))).setCell ⟨gb144, 4, none⟩ (.int .i64 ((rd_T136 l0_4 x3_2).f3.f1))).setCell ⟨gb144, 5, none⟩ (.int .i64 ((rd_T136 l0_4 x3_2).f3.f2))).heap[gb144]? = some (.cells #[.int .i64 ((rd_T136 l0_4 x3_2).f0), .int .i64 ((rd_T136 l0_4 x3_2).f1), .bool ((rd_T136 l0_4 x3_2).f2), .int .i64 ((rd_T136 l0_4 x3_2).f3.f0), .int .i64 ((rd_T136 l0_4 x3_2).f3.f1), .int .i64 ((rd_T136 l0_4 x3_2).f3.f2)] 136 (0, 0))) := ⟨by (with_reducible repeat (first | refine blk_drewN ?_ _ | refine blk_drew ?_ | refine blk_alloc ?_ _)); refine blk_put (cs := #[.int .i64 ((rd_T136 l0_4 x3_2).f0), .int .i64 ((rd_T136 l0_4 x3_2).f1), .bool ((rd_T136 l0_4 x3_2).f2), .int .i64 ((rd_T136 l0_4 x3_2).f3.f0), .int .i64 ((rd_T136 l0_4 x3_2).f3.f1), .int .i64 0]) ?_ 5 _ rfl; (with_reducible repeat (first | refine blk_drewN ?_ _ | refine blk_drew ?_ | refine blk_alloc ?_ _)); refine blk_put (cs := #[.int .i64 ((rd_T136 l0_4 x3_2).f0), .int .i64 ((rd_T136 l0_4 x3_2).f1), .bool ((rd_T136 l0_4 x3_2).f2), .int .i64 ((rd_T136 l0_4 x3_2).f3.f0), .int .i64 0, .int .i64 0]) ?_ 4 _ rfl; (with_reducible repeat (first | refine blk_drewN ?_ _ | refine blk_drew ?_ | refine blk_alloc ?_ _)); refine blk_put (cs := #[.int .i64 ((rd_T136 l0_4 x3_2).f0), .int .i64 ((rd_T136 l0_4 x3_2).f1), .bool ((rd_T136 l0_4 x3_2).f2), .int .i64 0, .int .i64 0, .int .i64 0]) ?_ 3 _ rfl; (with_reducible repeat (first | refine blk_drewN ?_ _ | refine blk_drew ?_ | refine blk_alloc ?_ _)); refine blk_put (cs := #[.int .i64 ((rd_T136 l0_4 x3_2).f0), .int .i64 ((rd_T136 l0_4 x3_2).f1), .bool false, .int .i64 0, .int .i64 0, .int .i64 0]) ?_ 2 _ rfl; (with_reducible repeat (first | refine blk_drewN ?_ _ | refine blk_drew ?_ | refine blk_alloc ?_ _)); refine blk_put (cs := #[.int .i64 ((rd_T136 l0_4 x3_2).f0), .int .i64 0, .bool false, .int .i64 0, .int .i64 0, .int .i64 0]) ?_ 1 _ rfl; (with_reducible repeat (first | refine blk_drewN ?_ _ | refine blk_drew ?_ | refine blk_alloc ?_ _)); refine blk_put (cs := #[.int .i64 0, .int .i64 0, .bool false, .int .i64 0, .int .i64 0, .int .i64 0]) ?_ 0 _ rfl; (with_reducible repeat (first | refine blk_drewN ?_ _ | refine blk_drew ?_ | refine blk_alloc ?_ _)); exact BK144.out⟩
                      have n2_ : Aside0 (Below w.heap.size w ((((((w24.setCell ⟨gb144, 0, none⟩ (.int .i64 ((rd_T136 l0_4 x3_2).f0))).setCell ⟨gb144, 1, none⟩ (.int .i64 ((rd_T136 l0_4 x3_2).f1))).setCell ⟨gb144, 2, none⟩ (.bool ((rd_T136 l0_4 x3_2).f2))).setCell ⟨gb144, 3, none⟩ (.int .i64 ((rd_T136 l0_4 x3_2).f3.f0))).setCell ⟨gb144, 4, none⟩ (.int .i64 ((rd_T136 l0_4 x3_2).f3.f1))).setCell ⟨gb144, 5, none⟩ (.int .i64 ((rd_T136 l0_4 x3_2).f3.f2)))) := ⟨by repeat (first | (with_reducible first | exact HB.out | apply below_alloc | apply pw_below_drewN | apply below_drew1 | refine below_set ?_ GE140.out | refine below_set ?_ GE144.out) | exact HB.out)⟩
                      (try clear BK140)
                      (try clear BK144)
                      (try clear HB)
                      generalize ((((((w24.setCell ⟨gb144, 0, none⟩ (.int .i64 ((rd_T136 l0_4 x3_2).f0))).setCell ⟨gb144, 1, none⟩ (.int .i64 ((rd_T136 l0_4 x3_2).f1))).setCell ⟨gb144, 2, none⟩ (.bool ((rd_T136 l0_4 x3_2).f2))).setCell ⟨gb144, 3, none⟩ (.int .i64 ((rd_T136 l0_4 x3_2).f3.f0))).setCell ⟨gb144, 4, none⟩ (.int .i64 ((rd_T136 l0_4 x3_2).f3.f1))).setCell ⟨gb144, 5, none⟩ (.int .i64 ((rd_T136 l0_4 x3_2).f3.f2))) = w31 at n0_ n1_ n2_ ⊢
                      have BK140 := n0_
                      have BK144 := n1_
                      have HB := n2_
                      clear n0_ n1_ n2_
                      have n0_ := Aside0.mk (blk_drew BK140.out)
                      have n1_ := Aside0.mk (blk_drew BK144.out)
                      have n2_ := Aside0.mk (below_drew1 HB.out)
                      clear BK140
                      clear BK144
                      clear HB
                      have BK140 := n0_
                      have BK144 := n1_
                      have HB := n2_
                      clear n0_ n1_ n2_
                      refine start_ (n := 38) (S := fun w' => w'.cell? ⟨gb144, 0, none⟩ = some (.int .i64 ((rd_T136 l0_4 x3_2).f0)) ∧ w'.cell? ⟨gb144, 1, none⟩ = some (.int .i64 ((rd_T136 l0_4 x3_2).f1)) ∧ w'.cell? ⟨gb144, 2, none⟩ = some (.bool ((rd_T136 l0_4 x3_2).f2)) ∧ w'.cell? ⟨gb144, 3, none⟩ = some (.int .i64 ((rd_T136 l0_4 x3_2).f3.f0)) ∧ w'.cell? ⟨gb144, 4, none⟩ = some (.int .i64 ((rd_T136 l0_4 x3_2).f3.f1)) ∧ w'.cell? ⟨gb144, 5, none⟩ = some (.int .i64 ((rd_T136 l0_4 x3_2).f3.f2))) (ds := []) (bz 38 0) (by kernel_rfl) rfl (by kernel_rfl) ⟨(blk_cell BK144.out 0).trans rfl, (blk_cell BK144.out 1).trans rfl, (blk_cell BK144.out 2).trans rfl, (blk_cell BK144.out 3).trans rfl, (blk_cell BK144.out 4).trans rfl, (blk_cell BK144.out 5).trans rfl⟩ (fun hHeld => ?_); refine with_tabW spec_FairOk.tab7 spec_FairOk.bits7 (fun HT_ HW_ => ?_)
                      generalize w31.drew = w32 at BK140 BK144 HB hHeld ⊢
                      refine px_ (i := 0) (N := some 35) (bz 38 1) (any_of HT_.out (by kernel_rfl)) ?_
                      refine tx_ (i := 1) (N := some 36) (bz 38 3) rfl rfl (take_ofW HT_.out HW_.out (by kernel_rfl)) hHeld Z95 ?_
                      refine px_ (i := 2) (N := some 37) (bz 38 7) (any_of HT_.out (by kernel_rfl)) ?_
                      refine px_ (i := 3) (N := some 38) (bz 38 15) (any_of HT_.out (by kernel_rfl)) ?_
                      refine px_ (i := 4) (N := some 39) (bz 38 31) (any_of HT_.out (by kernel_rfl)) ?_
                      refine tx_ (i := 5) (N := some 40) (bz 38 63) rfl rfl (take_ofW HT_.out HW_.out (by kernel_rfl)) hHeld Z95 ?_
                      refine px_ (i := 6) (N := some 41) (bz 38 127) (any_of HT_.out (by kernel_rfl)) ?_
                      refine px_ (i := 7) (N := some 42) (bz 38 255) (any_of HT_.out (by kernel_rfl)) ?_
                      refine px_ (i := 8) (N := some 43) (bz 38 511) (any_of HT_.out (by kernel_rfl)) ?_
                      refine ox_ (i := 9) (N := some 44) (bz 38 1023) (any_of HT_.out (by kernel_rfl)) ?_
                      refine ox_ (i := 10) (N := some 45) (bz 38 2047) (any_of HT_.out (by kernel_rfl)) ?_
                      refine ox_ (i := 11) (N := some 46) (bz 38 4095) (any_of HT_.out (by kernel_rfl)) ?_
                      refine ox_ (i := 12) (N := some 47) (bz 38 8191) (any_of HT_.out (by kernel_rfl)) ?_
                      refine ox_ (i := 13) (N := some 48) (bz 38 16383) (any_of HT_.out (by kernel_rfl)) ?_
                      refine ox_ (i := 14) (N := some 49) (bz 38 32767) (any_of HT_.out (by kernel_rfl)) ?_
                      refine ox_ (i := 15) (N := some 50) (bz 38 65535) (any_of HT_.out (by kernel_rfl)) ?_
                      refine ox_ (i := 16) (N := some 51) (bz 38 131071) (any_of HT_.out (by kernel_rfl)) ?_
                      refine ox_ (i := 17) (N := some 52) (bz 38 262143) (any_of HT_.out (by kernel_rfl)) ?_
                      refine ox_ (i := 18) (N := some 53) (bz 38 524287) (any_of HT_.out (by kernel_rfl)) ?_
                      refine ox_ (i := 19) (N := some 54) (bz 38 1048575) (any_of HT_.out (by kernel_rfl)) ?_
                      refine ox_ (i := 20) (N := some 55) (bz 38 2097151) (any_of HT_.out (by kernel_rfl)) ?_
                      refine ox_ (i := 21) (N := some 56) (bz 38 4194303) (any_of HT_.out (by kernel_rfl)) ?_
                      refine ox_ (i := 22) (N := some 57) (bz 38 8388607) (any_of HT_.out (by kernel_rfl)) ?_
                      refine px_ (i := 23) (N := some 58) (bz 38 16777215) (any_of HT_.out (by kernel_rfl)) ?_
                      refine px_ (i := 24) (N := some 59) (bz 38 33554431) (any_of HT_.out (by kernel_rfl)) ?_
                      refine ox_ (i := 25) (N := some 60) (bz 38 67108863) (any_of HT_.out (by kernel_rfl)) ?_
                      refine ox_ (i := 26) (N := some 61) (bz 38 134217727) (any_of HT_.out (by kernel_rfl)) ?_
                      refine ox_ (i := 27) (N := some 62) (bz 38 268435455) (any_of HT_.out (by kernel_rfl)) ?_
                      refine ox_ (i := 28) (N := some 63) (bz 38 536870911) (any_of HT_.out (by kernel_rfl)) ?_
                      refine px_ (i := 29) (N := some 64) (bz 38 1073741823) (any_of HT_.out (by kernel_rfl)) ?_
                      refine px_ (i := 30) (N := some 65) (bz 38 2147483647) (any_of HT_.out (by kernel_rfl)) ?_
                      refine ox_ (i := 31) (N := some 66) (bz 38 4294967295) (any_of HT_.out (by kernel_rfl)) ?_
                      refine ox_ (i := 32) (N := some 67) (bz 38 8589934591) (any_of HT_.out (by kernel_rfl)) ?_
                      refine ox_ (i := 33) (N := some 68) (bz 38 17179869183) (any_of HT_.out (by kernel_rfl)) ?_
                      refine ox_ (i := 34) (N := some 69) (bz 38 34359738367) (any_of HT_.out (by kernel_rfl)) ?_
                      refine ox_ (i := 35) (N := some 70) (bz 38 68719476735) (any_of HT_.out (by kernel_rfl)) ?_
                      refine ox_ (i := 36) (N := some 71) (bz 38 137438953471) (any_of HT_.out (by kernel_rfl)) ?_
                      refine px_ (i := 37) (N := some 72) (bz 38 274877906943) (any_of HT_.out (by kernel_rfl)) ?_
                      refine done_ (done_of HT_.out (by kernel_rfl)) ?_
                      try go_wp2
                      go_meet
                      case rel => exact ⟨_, (true), Z98, H', ⟨by have := HJ1.out; have := HK2.out; first | omega | exact Nat.le_refl _⟩, ⟨by (with_reducible repeat (first | refine blk_drewN ?_ _ | refine blk_drew ?_ | refine blk_alloc ?_ _)); exact BK140.out⟩, ⟨by (with_reducible repeat (first | refine blk_drewN ?_ _ | refine blk_drew ?_ | refine blk_alloc ?_ _)); exact BK144.out⟩, ⟨by repeat (first | (with_reducible first | exact HB.out | apply below_alloc | apply pw_below_drewN | apply below_drew1 | refine below_set ?_ GE140.out | refine below_set ?_ GE144.out) | exact HB.out)⟩⟩
                    · rw [if_neg c30] at H
                      have c30b0 : decide (9999 < ((rd_T136 l0_4 x3_2).f0)) = false := decide_eq_false c30
                      clear c30
                      by_cases c33 : x3_2 > 0
                      · rw [if_pos c33] at H
                        have c33b0 : decide (0 < x3_2) = true := decide_eq_true c33
                        clear c33
                        obtain ⟨ji34, hji34⟩ : ∃ j_ : Int, (wrap64 (x3_2 - 1)) = j_ := ⟨_, rfl⟩
                        replace H : (if 0 ≤ (ji34) then (if (ji34) < (l0_4.length : Int) then (if ((rd_T136 l0_4 (ji34)).f0) ≥ ((rd_T136 l0_4 x3_2).f0) then (spec_FairOk.j2 k2 x3_2 true a0_0 a0_1 a0_2 a0_3 l0_4 ((rd_T136 l0_4 x3_2).f0) ((rd_T136 l0_4 x3_2).f1) ((rd_T136 l0_4 x3_2).f2) ((rd_T136 l0_4 x3_2).f3.f0) ((rd_T136 l0_4 x3_2).f3.f1) ((rd_T136 l0_4 x3_2).f3.f2)) else ((spec_Stride.f ((rd_T136 l0_4 x3_2).f1)).bind fun t146 => (if t146 = 0 then (spec_FairOk.j2 k2 x3_2 true a0_0 a0_1 a0_2 a0_3 l0_4 ((rd_T136 l0_4 x3_2).f0) ((rd_T136 l0_4 x3_2).f1) ((rd_T136 l0_4 x3_2).f2) ((rd_T136 l0_4 x3_2).f3.f0) ((rd_T136 l0_4 x3_2).f3.f1) ((rd_T136 l0_4 x3_2).f3.f2)) else ((spec_Narrow.f ((rd_T136 l0_4 x3_2).f3.f0) ((rd_T136 l0_4 x3_2).f3.f1) ((rd_T136 l0_4 x3_2).f3.f2) a0_0).bind fun t147 => (spec_FairOk.j2 k2 x3_2 (!t147) a0_0 a0_1 a0_2 a0_3 l0_4 ((rd_T136 l0_4 x3_2).f0) ((rd_T136 l0_4 x3_2).f1) ((rd_T136 l0_4 x3_2).f2) ((rd_T136 l0_4 x3_2).f3.f0) ((rd_T136 l0_4 x3_2).f3.f1) ((rd_T136 l0_4 x3_2).f3.f2)))))) else (none)) else (none)) = some r := by first | (rw [hji34] at H; exact H) | (simp only [hji34] at H ⊢; exact H)
                        have hji34w : (IntKind.i64.wrap (x3_2 - 1)) = ji34 := (i64_w _).trans hji34
                        by_cases c35 : 0 ≤ (ji34)
                        · rw [if_pos c35] at H
                          have c35b0 : decide (0 ≤ (ji34)) = true := decide_eq_true c35
                          clear c35
                          by_cases c36 : (ji34) < (l0_4.length : Int)
                          · rw [if_pos c36] at H
                            have c36b0 : decide ((ji34) < (l0_4.length : Int)) = true := decide_eq_true c36
                            clear c36
                            by_cases c37 : ((rd_T136 l0_4 (ji34)).f0) ≥ ((rd_T136 l0_4 x3_2).f0)
                            · rw [if_pos c37] at H
                              have c37b0 : decide (((rd_T136 l0_4 x3_2).f0) ≤ ((rd_T136 l0_4 (ji34)).f0)) = true := decide_eq_true c37
                              clear c37
                              have H' := Aside0.mk H
                              clear H
                              try go_wp2
                              have n0_ : Aside0 (((((((w24.setCell ⟨gb144, 0, none⟩ (.int .i64 ((rd_T136 l0_4 x3_2).f0))).setCell ⟨gb144, 1, none⟩ (.int .i64 ((rd_T136 l0_4 x3_2).f1))).setCell ⟨gb144, 2, none⟩ (.bool ((rd_T136 l0_4 x3_2).f2))).setCell ⟨gb144, 3, none⟩ (.int .i64 ((rd_T136 l0_4 x3_2).f3.f0))).setCell ⟨gb144, 4, none⟩ (.int .i64 ((rd_T136 l0_4 x3_2).f3.f1))).setCell ⟨gb144, 5, none⟩ (.int .i64 ((rd_T136 l0_4 x3_2).f3.f2))).heap[gb140]? = some (.cells #[.int .i64 a0_0, .int .i64 a0_1, .int .i64 a0_2, .int .i64 a0_3, .slice (some ad143) l0_4.length c0_4] 52 (0, 0))) := ⟨by (with_reducible repeat (first | refine blk_drewN ?_ _ | refine blk_drew ?_ | refine blk_alloc ?_ _)); refine blk_far ?_ NB140_144.out _; (with_reducible repeat (first | refine blk_drewN ?_ _ | refine blk_drew ?_ | refine blk_alloc ?_ _)); refine blk_far ?_ NB140_144.out _; (with_reducible repeat (first | refine blk_drewN ?_ _ | refine blk_drew ?_ | refine blk_alloc ?_ _)); refine blk_far ?_ NB140_144.out _; (with_reducible repeat (first | refine blk_drewN ?_ _ | refine blk_drew ?_ | refine blk_alloc ?_ _)); refine blk_far ?_ NB140_144.out _; (with_reducible repeat (first | refine blk_drewN ?_ _ | refine blk_drew ?_ | refine blk_alloc ?_ _)); refine blk_far ?_ NB140_144.out _; (with_reducible repeat (first | refine blk_drewN ?_ _ | refine blk_drew ?_ | refine blk_alloc ?_ _)); refine blk_far ?_ NB140_144.out _; (with_reducible repeat (first | refine blk_drewN ?_ _ | refine blk_drew ?_ | refine blk_alloc ?_ _)); exact BK140.out⟩
                              have n1_ : Aside0 (((((((w24.setCell ⟨gb144, 0, none⟩ (.int .i64 ((rd_T136 l0_4 x3_2).f0))).setCell ⟨gb144, 1, none⟩ (.int .i64 ((rd_T136 l0_4 x3_2).f1))).setCell ⟨gb144, 2, none⟩ (.bool ((rd_T136 l0_4 x3_2).f2))).setCell ⟨gb144, 3, none⟩ (.int .i64 ((rd_T136 l0_4 x3_2).f3.f0))).setCell ⟨gb144, 4, none⟩ (.int .i64 ((rd_T136 l0_4 x3_2).f3.f1))).setCell ⟨gb144, 5, none⟩ (.int .i64 ((rd_T136 l0_4 x3_2).f3.f2))).heap[gb144]? = some (.cells #[.int .i64 ((rd_T136 l0_4 x3_2).f0), .int .i64 ((rd_T136 l0_4 x3_2).f1), .bool ((rd_T136 l0_4 x3_2).f2), .int .i64 ((rd_T136 l0_4 x3_2).f3.f0), .int .i64 ((rd_T136 l0_4 x3_2).f3.f1), .int .i64 ((rd_T136 l0_4 x3_2).f3.f2)] 136 (0, 0))) := ⟨by (with_reducible repeat (first | refine blk_drewN ?_ _ | refine blk_drew ?_ | refine blk_alloc ?_ _)); refine blk_put (cs := #[.int .i64 ((rd_T136 l0_4 x3_2).f0), .int .i64 ((rd_T136 l0_4 x3_2).f1), .bool ((rd_T136 l0_4 x3_2).f2), .int .i64 ((rd_T136 l0_4 x3_2).f3.f0), .int .i64 ((rd_T136 l0_4 x3_2).f3.f1), .int .i64 0]) ?_ 5 _ rfl; (with_reducible repeat (first | refine blk_drewN ?_ _ | refine blk_drew ?_ | refine blk_alloc ?_ _)); refine blk_put (cs := #[.int .i64 ((rd_T136 l0_4 x3_2).f0), .int .i64 ((rd_T136 l0_4 x3_2).f1), .bool ((rd_T136 l0_4 x3_2).f2), .int .i64 ((rd_T136 l0_4 x3_2).f3.f0), .int .i64 0, .int .i64 0]) ?_ 4 _ rfl; (with_reducible repeat (first | refine blk_drewN ?_ _ | refine blk_drew ?_ | refine blk_alloc ?_ _)); refine blk_put (cs := #[.int .i64 ((rd_T136 l0_4 x3_2).f0), .int .i64 ((rd_T136 l0_4 x3_2).f1), .bool ((rd_T136 l0_4 x3_2).f2), .int .i64 0, .int .i64 0, .int .i64 0]) ?_ 3 _ rfl; (with_reducible repeat (first | refine blk_drewN ?_ _ | refine blk_drew ?_ | refine blk_alloc ?_ _)); refine blk_put (cs := #[.int .i64 ((rd_T136 l0_4 x3_2).f0), .int .i64 ((rd_T136 l0_4 x3_2).f1), .bool false, .int .i64 0, .int .i64 0, .int .i64 0]) ?_ 2 _ rfl; (with_reducible repeat (first | refine blk_drewN ?_ _ | refine blk_drew ?_ | refine blk_alloc ?_ _)); refine blk_put (cs := #[.int .i64 ((rd_T136 l0_4 x3_2).f0), .int .i64 0, .bool false, .int .i64 0, .int .i64 0, .int .i64 0]) ?_ 1 _ rfl; (with_reducible repeat (first | refine blk_drewN ?_ _ | refine blk_drew ?_ | refine blk_alloc ?_ _)); refine blk_put (cs := #[.int .i64 0, .int .i64 0, .bool false, .int .i64 0, .int .i64 0, .int .i64 0]) ?_ 0 _ rfl; (with_reducible repeat (first | refine blk_drewN ?_ _ | refine blk_drew ?_ | refine blk_alloc ?_ _)); exact BK144.out⟩
                              have n2_ : Aside0 (Below w.heap.size w ((((((w24.setCell ⟨gb144, 0, none⟩ (.int .i64 ((rd_T136 l0_4 x3_2).f0))).setCell ⟨gb144, 1, none⟩ (.int .i64 ((rd_T136 l0_4 x3_2).f1))).setCell ⟨gb144, 2, none⟩ (.bool ((rd_T136 l0_4 x3_2).f2))).setCell ⟨gb144, 3, none⟩ (.int .i64 ((rd_T136 l0_4 x3_2).f3.f0))).setCell ⟨gb144, 4, none⟩ (.int .i64 ((rd_T136 l0_4 x3_2).f3.f1))).setCell ⟨gb144, 5, none⟩ (.int .i64 ((rd_T136 l0_4 x3_2).f3.f2)))) := ⟨by repeat (first | (with_reducible first | exact HB.out | apply below_alloc | apply pw_below_drewN | apply below_drew1 | refine below_set ?_ GE140.out | refine below_set ?_ GE144.out) | exact HB.out)⟩
                              (try clear BK140)
                              (try clear BK144)
                              (try clear HB)
                              generalize ((((((w24.setCell ⟨gb144, 0, none⟩ (.int .i64 ((rd_T136 l0_4 x3_2).f0))).setCell ⟨gb144, 1, none⟩ (.int .i64 ((rd_T136 l0_4 x3_2).f1))).setCell ⟨gb144, 2, none⟩ (.bool ((rd_T136 l0_4 x3_2).f2))).setCell ⟨gb144, 3, none⟩ (.int .i64 ((rd_T136 l0_4 x3_2).f3.f0))).setCell ⟨gb144, 4, none⟩ (.int .i64 ((rd_T136 l0_4 x3_2).f3.f1))).setCell ⟨gb144, 5, none⟩ (.int .i64 ((rd_T136 l0_4 x3_2).f3.f2))) = w38 at n0_ n1_ n2_ ⊢
                              have BK140 := n0_
                              have BK144 := n1_
                              have HB := n2_
                              clear n0_ n1_ n2_
                              have n0_ := Aside0.mk (blk_drew BK140.out)
                              have n1_ := Aside0.mk (blk_drew BK144.out)
                              have n2_ := Aside0.mk (below_drew1 HB.out)
                              clear BK140
                              clear BK144
                              clear HB
                              have BK140 := n0_
                              have BK144 := n1_
                              have HB := n2_
                              clear n0_ n1_ n2_
                              have p145 : 0 ≤ ((ji34) : Int) := of_decide_eq_true Z97
                              have q145 : (ji34) < (l0_4.length : Int) := of_decide_eq_true Z97
                              obtain ⟨ad145, e145, hx145_0, hx145_1, hx145_2, hx145_3, hx145_4, hx145_5⟩ := at_T136 HR0_4.out (ji34) p145 q145
                              have hw145_5 := hx145_5
                              have hw145_4 := hx145_4
                              have hw145_3 := hx145_3
                              have hw145_2 := hx145_2
                              have hw145_1 := hx145_1
                              have hw145_0 := hx145_0
                              obtain rfl : ad143 = ad145 := (by injection e145)
                              replace hx145_0 := (HB.out.cell (World.block_lt_of_cell? w _ hx145_0)).trans hx145_0
                              replace hx145_1 := (HB.out.cell (World.block_lt_of_cell? w _ hx145_1)).trans hx145_1
                              replace hx145_2 := (HB.out.cell (World.block_lt_of_cell? w _ hx145_2)).trans hx145_2
                              replace hx145_3 := (HB.out.cell (World.block_lt_of_cell? w _ hx145_3)).trans hx145_3
                              replace hx145_4 := (HB.out.cell (World.block_lt_of_cell? w _ hx145_4)).trans hx145_4
                              replace hx145_5 := (HB.out.cell (World.block_lt_of_cell? w _ hx145_5)).trans hx145_5
                              replace p145 := eq_true p145
                              replace q145 := eq_true q145
                              refine start_ (n := 38) (S := fun w' => w'.cell? ⟨gb144, 0, none⟩ = some (.int .i64 ((rd_T136 l0_4 x3_2).f0)) ∧ w'.cell? ⟨gb144, 1, none⟩ = some (.int .i64 ((rd_T136 l0_4 x3_2).f1)) ∧ w'.cell? ⟨gb144, 2, none⟩ = some (.bool ((rd_T136 l0_4 x3_2).f2)) ∧ w'.cell? ⟨gb144, 3, none⟩ = some (.int .i64 ((rd_T136 l0_4 x3_2).f3.f0)) ∧ w'.cell? ⟨gb144, 4, none⟩ = some (.int .i64 ((rd_T136 l0_4 x3_2).f3.f1)) ∧ w'.cell? ⟨gb144, 5, none⟩ = some (.int .i64 ((rd_T136 l0_4 x3_2).f3.f2)) ∧ w'.cell? ⟨gb140, 0, none⟩ = some (.int .i64 a0_0) ∧ w'.cell? ⟨gb140, 1, none⟩ = some (.int .i64 a0_1) ∧ w'.cell? ⟨gb140, 2, none⟩ = some (.int .i64 a0_2) ∧ w'.cell? ⟨gb140, 3, none⟩ = some (.int .i64 a0_3) ∧ w'.cell? ⟨gb140, 4, none⟩ = some (.slice (some ad143) l0_4.length c0_4) ∧ w'.cell? (ad143.add (((ji34)).toNat * 6)) = some (.int .i64 ((rd_T136 l0_4 (ji34)).f0)) ∧ w'.cell? ⟨(ad143.add (((ji34)).toNat * 6)).block, (ad143.add (((ji34)).toNat * 6)).off + 1, none⟩ = some (.int .i64 ((rd_T136 l0_4 (ji34)).f1)) ∧ w'.cell? ⟨(ad143.add (((ji34)).toNat * 6)).block, (ad143.add (((ji34)).toNat * 6)).off + 2, none⟩ = some (.bool ((rd_T136 l0_4 (ji34)).f2)) ∧ w'.cell? ⟨(ad143.add (((ji34)).toNat * 6)).block, (ad143.add (((ji34)).toNat * 6)).off + 3, none⟩ = some (.int .i64 ((rd_T136 l0_4 (ji34)).f3.f0)) ∧ w'.cell? ⟨(ad143.add (((ji34)).toNat * 6)).block, (ad143.add (((ji34)).toNat * 6)).off + 4, none⟩ = some (.int .i64 ((rd_T136 l0_4 (ji34)).f3.f1)) ∧ w'.cell? ⟨(ad143.add (((ji34)).toNat * 6)).block, (ad143.add (((ji34)).toNat * 6)).off + 5, none⟩ = some (.int .i64 ((rd_T136 l0_4 (ji34)).f3.f2))) (ds := []) (bz 38 0) (by kernel_rfl) rfl (by kernel_rfl) ⟨(blk_cell BK144.out 0).trans rfl, (blk_cell BK144.out 1).trans rfl, (blk_cell BK144.out 2).trans rfl, (blk_cell BK144.out 3).trans rfl, (blk_cell BK144.out 4).trans rfl, (blk_cell BK144.out 5).trans rfl, (blk_cell BK140.out 0).trans rfl, (blk_cell BK140.out 1).trans rfl, (blk_cell BK140.out 2).trans rfl, (blk_cell BK140.out 3).trans rfl, (blk_cell BK140.out 4).trans rfl, ((HB.out.cell (World.block_lt_of_cell? w _ hw145_0)).trans hw145_0), ((HB.out.cell (World.block_lt_of_cell? w _ hw145_1)).trans hw145_1), ((HB.out.cell (World.block_lt_of_cell? w _ hw145_2)).trans hw145_2), ((HB.out.cell (World.block_lt_of_cell? w _ hw145_3)).trans hw145_3), ((HB.out.cell (World.block_lt_of_cell? w _ hw145_4)).trans hw145_4), ((HB.out.cell (World.block_lt_of_cell? w _ hw145_5)).trans hw145_5)⟩ (fun hHeld => ?_); refine with_tabW spec_FairOk.tab7 spec_FairOk.bits7 (fun HT_ HW_ => ?_)
                              generalize w38.drew = w39 at BK140 BK144 HB hx145_0 hx145_1 hx145_2 hx145_3 hx145_4 hx145_5 hHeld ⊢
                              refine px_ (i := 0) (N := some 35) (bz 38 1) (any_of HT_.out (by kernel_rfl)) ?_
                              refine tx_ (i := 1) (N := some 36) (bz 38 3) rfl rfl (take_ofW HT_.out HW_.out (by kernel_rfl)) hHeld Z86 ?_
                              refine px_ (i := 2) (N := some 37) (bz 38 7) (any_of HT_.out (by kernel_rfl)) ?_
                              refine px_ (i := 3) (N := some 38) (bz 38 15) (any_of HT_.out (by kernel_rfl)) ?_
                              refine px_ (i := 4) (N := some 39) (bz 38 31) (any_of HT_.out (by kernel_rfl)) ?_
                              refine tx_ (i := 5) (N := some 40) (bz 38 63) rfl rfl (take_ofW HT_.out HW_.out (by kernel_rfl)) hHeld Z86 ?_
                              refine px_ (i := 6) (N := some 41) (bz 38 127) (any_of HT_.out (by kernel_rfl)) ?_
                              refine px_ (i := 7) (N := some 42) (bz 38 255) (any_of HT_.out (by kernel_rfl)) ?_
                              refine px_ (i := 8) (N := some 43) (bz 38 511) (any_of HT_.out (by kernel_rfl)) ?_
                              refine px_ (i := 9) (N := some 44) (bz 38 1023) (any_of HT_.out (by kernel_rfl)) ?_
                              refine px_ (i := 10) (N := some 45) (bz 38 2047) (any_of HT_.out (by kernel_rfl)) ?_
                              refine px_ (i := 11) (N := some 46) (bz 38 4095) (any_of HT_.out (by kernel_rfl)) ?_
                              refine px_ (i := 12) (N := some 47) (bz 38 8191) (any_of HT_.out (by kernel_rfl)) ?_
                              refine px_ (i := 14) (N := some 49) (bz 38 24575) (any_of HT_.out (by kernel_rfl)) ?_
                              refine px_ (i := 15) (N := some 50) (bz 38 57343) (any_of HT_.out (by kernel_rfl)) ?_
                              refine px_ (i := 19) (N := some 54) (bz 38 581631) (any_of HT_.out (by kernel_rfl)) ?_
                              refine tx_ (i := 13) (N := some 48) (bz 38 589823) rfl rfl (take_ofW HT_.out HW_.out (by kernel_rfl)) hHeld Z86 ?_
                              refine px_ (i := 16) (N := some 51) (bz 38 655359) (any_of HT_.out (by kernel_rfl)) ?_
                              refine px_ (i := 17) (N := some 52) (bz 38 786431) (any_of HT_.out (by kernel_rfl)) ?_
                              refine tx_ (i := 18) (N := some 53) (bz 38 1048575) rfl rfl (take_ofW HT_.out HW_.out (by kernel_rfl)) hHeld Z86 ?_
                              refine tx_ (i := 20) (N := some 55) (bz 38 2097151) rfl rfl (take_ofW HT_.out HW_.out (by kernel_rfl)) hHeld Z86 ?_
                              refine px_ (i := 21) (N := some 56) (bz 38 4194303) (any_of HT_.out (by kernel_rfl)) ?_
                              refine px_ (i := 22) (N := some 57) (bz 38 8388607) (any_of HT_.out (by kernel_rfl)) ?_
                              refine px_ (i := 23) (N := some 58) (bz 38 16777215) (any_of HT_.out (by kernel_rfl)) ?_
                              refine px_ (i := 24) (N := some 59) (bz 38 33554431) (any_of HT_.out (by kernel_rfl)) ?_
                              refine ox_ (i := 25) (N := some 60) (bz 38 67108863) (any_of HT_.out (by kernel_rfl)) ?_
                              refine ox_ (i := 26) (N := some 61) (bz 38 134217727) (any_of HT_.out (by kernel_rfl)) ?_
                              refine ox_ (i := 27) (N := some 62) (bz 38 268435455) (any_of HT_.out (by kernel_rfl)) ?_
                              refine ox_ (i := 28) (N := some 63) (bz 38 536870911) (any_of HT_.out (by kernel_rfl)) ?_
                              refine px_ (i := 29) (N := some 64) (bz 38 1073741823) (any_of HT_.out (by kernel_rfl)) ?_
                              refine px_ (i := 30) (N := some 65) (bz 38 2147483647) (any_of HT_.out (by kernel_rfl)) ?_
                              refine ox_ (i := 31) (N := some 66) (bz 38 4294967295) (any_of HT_.out (by kernel_rfl)) ?_
                              refine ox_ (i := 32) (N := some 67) (bz 38 8589934591) (any_of HT_.out (by kernel_rfl)) ?_
                              refine ox_ (i := 33) (N := some 68) (bz 38 17179869183) (any_of HT_.out (by kernel_rfl)) ?_
                              refine ox_ (i := 34) (N := some 69) (bz 38 34359738367) (any_of HT_.out (by kernel_rfl)) ?_
                              refine ox_ (i := 35) (N := some 70) (bz 38 68719476735) (any_of HT_.out (by kernel_rfl)) ?_
                              refine ox_ (i := 36) (N := some 71) (bz 38 137438953471) (any_of HT_.out (by kernel_rfl)) ?_
                              refine px_ (i := 37) (N := some 72) (bz 38 274877906943) (any_of HT_.out (by kernel_rfl)) ?_
                              refine done_ (done_of HT_.out (by kernel_rfl)) ?_
                              try go_wp2
                              go_meet
                              case rel => exact ⟨_, (true), Z98, H', ⟨by have := HJ1.out; have := HK2.out; first | omega | exact Nat.le_refl _⟩, ⟨by (with_reducible repeat (first | refine blk_drewN ?_ _ | refine blk_drew ?_ | refine blk_alloc ?_ _)); exact BK140.out⟩, ⟨by (with_reducible repeat (first | refine blk_drewN ?_ _ | refine blk_drew ?_ | refine blk_alloc ?_ _)); exact BK144.out⟩, ⟨by repeat (first | (with_reducible first | exact HB.out | apply below_alloc | apply pw_below_drewN | apply below_drew1 | refine below_set ?_ GE140.out | refine below_set ?_ GE144.out) | exact HB.out)⟩⟩
                            · rw [if_neg c37] at H
                              have c37b0 : decide (((rd_T136 l0_4 x3_2).f0) ≤ ((rd_T136 l0_4 (ji34)).f0)) = false := decide_eq_false c37
                              clear c37
                              replace H := Option.bind_eq_some_iff.mp H
                              obtain ⟨t146, A400, H⟩ := H
                              replace H : (if t146 = 0 then (spec_FairOk.j2 k2 x3_2 true a0_0 a0_1 a0_2 a0_3 l0_4 ((rd_T136 l0_4 x3_2).f0) ((rd_T136 l0_4 x3_2).f1) ((rd_T136 l0_4 x3_2).f2) ((rd_T136 l0_4 x3_2).f3.f0) ((rd_T136 l0_4 x3_2).f3.f1) ((rd_T136 l0_4 x3_2).f3.f2)) else ((spec_Narrow.f ((rd_T136 l0_4 x3_2).f3.f0) ((rd_T136 l0_4 x3_2).f3.f1) ((rd_T136 l0_4 x3_2).f3.f2) a0_0).bind fun t147 => (spec_FairOk.j2 k2 x3_2 (!t147) a0_0 a0_1 a0_2 a0_3 l0_4 ((rd_T136 l0_4 x3_2).f0) ((rd_T136 l0_4 x3_2).f1) ((rd_T136 l0_4 x3_2).f2) ((rd_T136 l0_4 x3_2).f3.f0) ((rd_T136 l0_4 x3_2).f3.f1) ((rd_T136 l0_4 x3_2).f3.f2)))) = some r := H
                              have A40 := Aside0.mk A400
                              clear A400
                              by_cases c41 : t146 = 0
                              · rw [if_pos c41] at H
                                have c41b0 : (t146 == 0) = true := beq_iff_eq.mpr c41
                                have c41b1 : (t146 != 0) = false := bne_eq_false_iff_eq.mpr c41
                                clear c41
                                have H' := Aside0.mk H
                                clear H
                                try go_wp2
                                have n0_ : Aside0 (((((((w24.setCell ⟨gb144, 0, none⟩ (.int .i64 ((rd_T136 l0_4 x3_2).f0))).setCell ⟨gb144, 1, none⟩ (.int .i64 ((rd_T136 l0_4 x3_2).f1))).setCell ⟨gb144, 2, none⟩ (.bool ((rd_T136 l0_4 x3_2).f2))).setCell ⟨gb144, 3, none⟩ (.int .i64 ((rd_T136 l0_4 x3_2).f3.f0))).setCell ⟨gb144, 4, none⟩ (.int .i64 ((rd_T136 l0_4 x3_2).f3.f1))).setCell ⟨gb144, 5, none⟩ (.int .i64 ((rd_T136 l0_4 x3_2).f3.f2))).heap[gb140]? = some (.cells #[.int .i64 a0_0, .int .i64 a0_1, .int .i64 a0_2, .int .i64 a0_3, .slice (some ad143) l0_4.length c0_4] 52 (0, 0))) := ⟨by (with_reducible repeat (first | refine blk_drewN ?_ _ | refine blk_drew ?_ | refine blk_alloc ?_ _)); refine blk_far ?_ NB140_144.out _; (with_reducible repeat (first | refine blk_drewN ?_ _ | refine blk_drew ?_ | refine blk_alloc ?_ _)); refine blk_far ?_ NB140_144.out _; (with_reducible repeat (first | refine blk_drewN ?_ _ | refine blk_drew ?_ | refine blk_alloc ?_ _)); refine blk_far ?_ NB140_144.out _; (with_reducible repeat (first | refine blk_drewN ?_ _ | refine blk_drew ?_ | refine blk_alloc ?_ _)); refine blk_far ?_ NB140_144.out _; (with_reducible repeat (first | refine blk_drewN ?_ _ | refine blk_drew ?_ | refine blk_alloc ?_ _)); refine blk_far ?_ NB140_144.out _; (with_reducible repeat (first | refine blk_drewN ?_ _ | refine blk_drew ?_ | refine blk_alloc ?_ _)); refine blk_far ?_ NB140_144.out _; (with_reducible repeat (first | refine blk_drewN ?_ _ | refine blk_drew ?_ | refine blk_alloc ?_ _)); exact BK140.out⟩
                                have n1_ : Aside0 (((((((w24.setCell ⟨gb144, 0, none⟩ (.int .i64 ((rd_T136 l0_4 x3_2).f0))).setCell ⟨gb144, 1, none⟩ (.int .i64 ((rd_T136 l0_4 x3_2).f1))).setCell ⟨gb144, 2, none⟩ (.bool ((rd_T136 l0_4 x3_2).f2))).setCell ⟨gb144, 3, none⟩ (.int .i64 ((rd_T136 l0_4 x3_2).f3.f0))).setCell ⟨gb144, 4, none⟩ (.int .i64 ((rd_T136 l0_4 x3_2).f3.f1))).setCell ⟨gb144, 5, none⟩ (.int .i64 ((rd_T136 l0_4 x3_2).f3.f2))).heap[gb144]? = some (.cells #[.int .i64 ((rd_T136 l0_4 x3_2).f0), .int .i64 ((rd_T136 l0_4 x3_2).f1), .bool ((rd_T136 l0_4 x3_2).f2), .int .i64 ((rd_T136 l0_4 x3_2).f3.f0), .int .i64 ((rd_T136 l0_4 x3_2).f3.f1), .int .i64 ((rd_T136 l0_4 x3_2).f3.f2)] 136 (0, 0))) := ⟨by (with_reducible repeat (first | refine blk_drewN ?_ _ | refine blk_drew ?_ | refine blk_alloc ?_ _)); refine blk_put (cs := #[.int .i64 ((rd_T136 l0_4 x3_2).f0), .int .i64 ((rd_T136 l0_4 x3_2).f1), .bool ((rd_T136 l0_4 x3_2).f2), .int .i64 ((rd_T136 l0_4 x3_2).f3.f0), .int .i64 ((rd_T136 l0_4 x3_2).f3.f1), .int .i64 0]) ?_ 5 _ rfl; (with_reducible repeat (first | refine blk_drewN ?_ _ | refine blk_drew ?_ | refine blk_alloc ?_ _)); refine blk_put (cs := #[.int .i64 ((rd_T136 l0_4 x3_2).f0), .int .i64 ((rd_T136 l0_4 x3_2).f1), .bool ((rd_T136 l0_4 x3_2).f2), .int .i64 ((rd_T136 l0_4 x3_2).f3.f0), .int .i64 0, .int .i64 0]) ?_ 4 _ rfl; (with_reducible repeat (first | refine blk_drewN ?_ _ | refine blk_drew ?_ | refine blk_alloc ?_ _)); refine blk_put (cs := #[.int .i64 ((rd_T136 l0_4 x3_2).f0), .int .i64 ((rd_T136 l0_4 x3_2).f1), .bool ((rd_T136 l0_4 x3_2).f2), .int .i64 0, .int .i64 0, .int .i64 0]) ?_ 3 _ rfl; (with_reducible repeat (first | refine blk_drewN ?_ _ | refine blk_drew ?_ | refine blk_alloc ?_ _)); refine blk_put (cs := #[.int .i64 ((rd_T136 l0_4 x3_2).f0), .int .i64 ((rd_T136 l0_4 x3_2).f1), .bool false, .int .i64 0, .int .i64 0, .int .i64 0]) ?_ 2 _ rfl; (with_reducible repeat (first | refine blk_drewN ?_ _ | refine blk_drew ?_ | refine blk_alloc ?_ _)); refine blk_put (cs := #[.int .i64 ((rd_T136 l0_4 x3_2).f0), .int .i64 0, .bool false, .int .i64 0, .int .i64 0, .int .i64 0]) ?_ 1 _ rfl; (with_reducible repeat (first | refine blk_drewN ?_ _ | refine blk_drew ?_ | refine blk_alloc ?_ _)); refine blk_put (cs := #[.int .i64 0, .int .i64 0, .bool false, .int .i64 0, .int .i64 0, .int .i64 0]) ?_ 0 _ rfl; (with_reducible repeat (first | refine blk_drewN ?_ _ | refine blk_drew ?_ | refine blk_alloc ?_ _)); exact BK144.out⟩
                                have n2_ : Aside0 (Below w.heap.size w ((((((w24.setCell ⟨gb144, 0, none⟩ (.int .i64 ((rd_T136 l0_4 x3_2).f0))).setCell ⟨gb144, 1, none⟩ (.int .i64 ((rd_T136 l0_4 x3_2).f1))).setCell ⟨gb144, 2, none⟩ (.bool ((rd_T136 l0_4 x3_2).f2))).setCell ⟨gb144, 3, none⟩ (.int .i64 ((rd_T136 l0_4 x3_2).f3.f0))).setCell ⟨gb144, 4, none⟩ (.int .i64 ((rd_T136 l0_4 x3_2).f3.f1))).setCell ⟨gb144, 5, none⟩ (.int .i64 ((rd_T136 l0_4 x3_2).f3.f2)))) := ⟨by repeat (first | (with_reducible first | exact HB.out | apply below_alloc | apply pw_below_drewN | apply below_drew1 | refine below_set ?_ GE140.out | refine below_set ?_ GE144.out) | exact HB.out)⟩
                                (try clear BK140)
                                (try clear BK144)
                                (try clear HB)
                                generalize ((((((w24.setCell ⟨gb144, 0, none⟩ (.int .i64 ((rd_T136 l0_4 x3_2).f0))).setCell ⟨gb144, 1, none⟩ (.int .i64 ((rd_T136 l0_4 x3_2).f1))).setCell ⟨gb144, 2, none⟩ (.bool ((rd_T136 l0_4 x3_2).f2))).setCell ⟨gb144, 3, none⟩ (.int .i64 ((rd_T136 l0_4 x3_2).f3.f0))).setCell ⟨gb144, 4, none⟩ (.int .i64 ((rd_T136 l0_4 x3_2).f3.f1))).setCell ⟨gb144, 5, none⟩ (.int .i64 ((rd_T136 l0_4 x3_2).f3.f2))) = w42 at n0_ n1_ n2_ ⊢
                                have BK140 := n0_
                                have BK144 := n1_
                                have HB := n2_
                                clear n0_ n1_ n2_
                                have n0_ := Aside0.mk (blk_drew BK140.out)
                                have n1_ := Aside0.mk (blk_drew BK144.out)
                                have n2_ := Aside0.mk (below_drew1 HB.out)
                                clear BK140
                                clear BK144
                                clear HB
                                have BK140 := n0_
                                have BK144 := n1_
                                have HB := n2_
                                clear n0_ n1_ n2_
                                have p145 : 0 ≤ ((ji34) : Int) := of_decide_eq_true Z97
                                have q145 : (ji34) < (l0_4.length : Int) := of_decide_eq_true Z97
                                obtain ⟨ad145, e145, hx145_0, hx145_1, hx145_2, hx145_3, hx145_4, hx145_5⟩ := at_T136 HR0_4.out (ji34) p145 q145
                                have hw145_5 := hx145_5
                                have hw145_4 := hx145_4
                                have hw145_3 := hx145_3
                                have hw145_2 := hx145_2
                                have hw145_1 := hx145_1
                                have hw145_0 := hx145_0
                                obtain rfl : ad143 = ad145 := (by injection e145)
                                replace hx145_0 := (HB.out.cell (World.block_lt_of_cell? w _ hx145_0)).trans hx145_0
                                replace hx145_1 := (HB.out.cell (World.block_lt_of_cell? w _ hx145_1)).trans hx145_1
                                replace hx145_2 := (HB.out.cell (World.block_lt_of_cell? w _ hx145_2)).trans hx145_2
                                replace hx145_3 := (HB.out.cell (World.block_lt_of_cell? w _ hx145_3)).trans hx145_3
                                replace hx145_4 := (HB.out.cell (World.block_lt_of_cell? w _ hx145_4)).trans hx145_4
                                replace hx145_5 := (HB.out.cell (World.block_lt_of_cell? w _ hx145_5)).trans hx145_5
                                replace p145 := eq_true p145
                                replace q145 := eq_true q145
                                refine start_ (n := 38) (S := fun w' => w'.cell? ⟨gb144, 0, none⟩ = some (.int .i64 ((rd_T136 l0_4 x3_2).f0)) ∧ w'.cell? ⟨gb144, 1, none⟩ = some (.int .i64 ((rd_T136 l0_4 x3_2).f1)) ∧ w'.cell? ⟨gb144, 2, none⟩ = some (.bool ((rd_T136 l0_4 x3_2).f2)) ∧ w'.cell? ⟨gb144, 3, none⟩ = some (.int .i64 ((rd_T136 l0_4 x3_2).f3.f0)) ∧ w'.cell? ⟨gb144, 4, none⟩ = some (.int .i64 ((rd_T136 l0_4 x3_2).f3.f1)) ∧ w'.cell? ⟨gb144, 5, none⟩ = some (.int .i64 ((rd_T136 l0_4 x3_2).f3.f2)) ∧ w'.cell? ⟨gb140, 0, none⟩ = some (.int .i64 a0_0) ∧ w'.cell? ⟨gb140, 1, none⟩ = some (.int .i64 a0_1) ∧ w'.cell? ⟨gb140, 2, none⟩ = some (.int .i64 a0_2) ∧ w'.cell? ⟨gb140, 3, none⟩ = some (.int .i64 a0_3) ∧ w'.cell? ⟨gb140, 4, none⟩ = some (.slice (some ad143) l0_4.length c0_4) ∧ w'.cell? (ad143.add (((ji34)).toNat * 6)) = some (.int .i64 ((rd_T136 l0_4 (ji34)).f0)) ∧ w'.cell? ⟨(ad143.add (((ji34)).toNat * 6)).block, (ad143.add (((ji34)).toNat * 6)).off + 1, none⟩ = some (.int .i64 ((rd_T136 l0_4 (ji34)).f1)) ∧ w'.cell? ⟨(ad143.add (((ji34)).toNat * 6)).block, (ad143.add (((ji34)).toNat * 6)).off + 2, none⟩ = some (.bool ((rd_T136 l0_4 (ji34)).f2)) ∧ w'.cell? ⟨(ad143.add (((ji34)).toNat * 6)).block, (ad143.add (((ji34)).toNat * 6)).off + 3, none⟩ = some (.int .i64 ((rd_T136 l0_4 (ji34)).f3.f0)) ∧ w'.cell? ⟨(ad143.add (((ji34)).toNat * 6)).block, (ad143.add (((ji34)).toNat * 6)).off + 4, none⟩ = some (.int .i64 ((rd_T136 l0_4 (ji34)).f3.f1)) ∧ w'.cell? ⟨(ad143.add (((ji34)).toNat * 6)).block, (ad143.add (((ji34)).toNat * 6)).off + 5, none⟩ = some (.int .i64 ((rd_T136 l0_4 (ji34)).f3.f2))) (ds := []) (bz 38 0) (by kernel_rfl) rfl (by kernel_rfl) ⟨(blk_cell BK144.out 0).trans rfl, (blk_cell BK144.out 1).trans rfl, (blk_cell BK144.out 2).trans rfl, (blk_cell BK144.out 3).trans rfl, (blk_cell BK144.out 4).trans rfl, (blk_cell BK144.out 5).trans rfl, (blk_cell BK140.out 0).trans rfl, (blk_cell BK140.out 1).trans rfl, (blk_cell BK140.out 2).trans rfl, (blk_cell BK140.out 3).trans rfl, (blk_cell BK140.out 4).trans rfl, ((HB.out.cell (World.block_lt_of_cell? w _ hw145_0)).trans hw145_0), ((HB.out.cell (World.block_lt_of_cell? w _ hw145_1)).trans hw145_1), ((HB.out.cell (World.block_lt_of_cell? w _ hw145_2)).trans hw145_2), ((HB.out.cell (World.block_lt_of_cell? w _ hw145_3)).trans hw145_3), ((HB.out.cell (World.block_lt_of_cell? w _ hw145_4)).trans hw145_4), ((HB.out.cell (World.block_lt_of_cell? w _ hw145_5)).trans hw145_5)⟩ (fun hHeld => ?_); refine with_tabW spec_FairOk.tab7 spec_FairOk.bits7 (fun HT_ HW_ => ?_)
                                generalize w42.drew = w43 at BK140 BK144 HB hx145_0 hx145_1 hx145_2 hx145_3 hx145_4 hx145_5 hHeld ⊢
                                refine px_ (i := 0) (N := some 35) (bz 38 1) (any_of HT_.out (by kernel_rfl)) ?_
                                refine tx_ (i := 1) (N := some 36) (bz 38 3) rfl rfl (take_ofW HT_.out HW_.out (by kernel_rfl)) hHeld Z86 ?_
                                refine px_ (i := 2) (N := some 37) (bz 38 7) (any_of HT_.out (by kernel_rfl)) ?_
                                refine px_ (i := 3) (N := some 38) (bz 38 15) (any_of HT_.out (by kernel_rfl)) ?_
                                refine px_ (i := 4) (N := some 39) (bz 38 31) (any_of HT_.out (by kernel_rfl)) ?_
                                refine tx_ (i := 5) (N := some 40) (bz 38 63) rfl rfl (take_ofW HT_.out HW_.out (by kernel_rfl)) hHeld Z86 ?_
                                refine px_ (i := 6) (N := some 41) (bz 38 127) (any_of HT_.out (by kernel_rfl)) ?_
                                refine px_ (i := 7) (N := some 42) (bz 38 255) (any_of HT_.out (by kernel_rfl)) ?_
                                refine px_ (i := 8) (N := some 43) (bz 38 511) (any_of HT_.out (by kernel_rfl)) ?_
                                refine px_ (i := 9) (N := some 44) (bz 38 1023) (any_of HT_.out (by kernel_rfl)) ?_
                                refine px_ (i := 10) (N := some 45) (bz 38 2047) (any_of HT_.out (by kernel_rfl)) ?_
                                refine px_ (i := 11) (N := some 46) (bz 38 4095) (any_of HT_.out (by kernel_rfl)) ?_
                                refine px_ (i := 12) (N := some 47) (bz 38 8191) (any_of HT_.out (by kernel_rfl)) ?_
                                refine px_ (i := 14) (N := some 49) (bz 38 24575) (any_of HT_.out (by kernel_rfl)) ?_
                                refine px_ (i := 15) (N := some 50) (bz 38 57343) (any_of HT_.out (by kernel_rfl)) ?_
                                refine px_ (i := 19) (N := some 54) (bz 38 581631) (any_of HT_.out (by kernel_rfl)) ?_
                                refine tx_ (i := 13) (N := some 48) (bz 38 589823) rfl rfl (take_ofW HT_.out HW_.out (by kernel_rfl)) hHeld Z86 ?_
                                refine px_ (i := 16) (N := some 51) (bz 38 655359) (any_of HT_.out (by kernel_rfl)) ?_
                                refine px_ (i := 17) (N := some 52) (bz 38 786431) (any_of HT_.out (by kernel_rfl)) ?_
                                refine tx_ (i := 18) (N := some 53) (bz 38 1048575) rfl rfl (take_ofW HT_.out HW_.out (by kernel_rfl)) hHeld Z86 ?_
                                refine tx_ (i := 20) (N := some 55) (bz 38 2097151) rfl rfl (take_ofW HT_.out HW_.out (by kernel_rfl)) hHeld Z86 ?_
                                refine px_ (i := 21) (N := some 56) (bz 38 4194303) (any_of HT_.out (by kernel_rfl)) ?_
                                refine px_ (i := 22) (N := some 57) (bz 38 8388607) (any_of HT_.out (by kernel_rfl)) ?_
                                refine px_ (i := 23) (N := some 58) (bz 38 16777215) (any_of HT_.out (by kernel_rfl)) ?_
                                refine px_ (i := 24) (N := some 59) (bz 38 33554431) (any_of HT_.out (by kernel_rfl)) ?_
                                refine px_ (i := 25) (N := some 60) (bz 38 67108863) (any_of HT_.out (by kernel_rfl)) ?_
                                refine tx_ (i := 26) (N := some 61) (bz 38 134217727) rfl rfl (take_ofW HT_.out HW_.out (by kernel_rfl)) hHeld Z86 ?_
                                refine one_ (i := 27) (N := some 62) (bz 38 268435455) rfl rfl (one_of HT_.out (by kernel_rfl)) (by decide) (fun K hK => ?_)
                                refine goes_ Try.func61 (by kernel_rfl) rfl #[.int .i64 ((rd_T136 l0_4 x3_2).f1)] (by rfl) rfl rfl Z41 ?_
                                with_reducible refine (spec_Stride.calls ((rd_T136 l0_4 x3_2).f1) t146 _ A40.out).mono ?_
                                rintro e w' ⟨rfl, ⟨nd, rfl⟩⟩
                                refine ⟨_, rfl, ?_⟩
                                refine hK.out _ _ ⟨(blk_cell BK144.out 0).trans rfl, (blk_cell BK144.out 1).trans rfl, (blk_cell BK144.out 2).trans rfl, (blk_cell BK144.out 3).trans rfl, (blk_cell BK144.out 4).trans rfl, (blk_cell BK144.out 5).trans rfl, (blk_cell BK140.out 0).trans rfl, (blk_cell BK140.out 1).trans rfl, (blk_cell BK140.out 2).trans rfl, (blk_cell BK140.out 3).trans rfl, (blk_cell BK140.out 4).trans rfl, ((HB.out.cell (World.block_lt_of_cell? w _ hw145_0)).trans hw145_0), ((HB.out.cell (World.block_lt_of_cell? w _ hw145_1)).trans hw145_1), ((HB.out.cell (World.block_lt_of_cell? w _ hw145_2)).trans hw145_2), ((HB.out.cell (World.block_lt_of_cell? w _ hw145_3)).trans hw145_3), ((HB.out.cell (World.block_lt_of_cell? w _ hw145_4)).trans hw145_4), ((HB.out.cell (World.block_lt_of_cell? w _ hw145_5)).trans hw145_5)⟩ (fun hHeld => ?_)
                                clear hK K
                                refine nx_ (N := some 62) ?_
                                refine px_ (i := 28) (N := some 63) (bz 38 536870911) (any_of HT_.out (by kernel_rfl)) ?_
                                refine px_ (i := 29) (N := some 64) (bz 38 1073741823) (any_of HT_.out (by kernel_rfl)) ?_
                                refine px_ (i := 30) (N := some 65) (bz 38 2147483647) (any_of HT_.out (by kernel_rfl)) ?_
                                refine ox_ (i := 31) (N := some 66) (bz 38 4294967295) (any_of HT_.out (by kernel_rfl)) ?_
                                refine ox_ (i := 32) (N := some 67) (bz 38 8589934591) (any_of HT_.out (by kernel_rfl)) ?_
                                refine ox_ (i := 33) (N := some 68) (bz 38 17179869183) (any_of HT_.out (by kernel_rfl)) ?_
                                refine ox_ (i := 34) (N := some 69) (bz 38 34359738367) (any_of HT_.out (by kernel_rfl)) ?_
                                refine ox_ (i := 35) (N := some 70) (bz 38 68719476735) (any_of HT_.out (by kernel_rfl)) ?_
                                refine ox_ (i := 36) (N := some 71) (bz 38 137438953471) (any_of HT_.out (by kernel_rfl)) ?_
                                refine px_ (i := 37) (N := some 72) (bz 38 274877906943) (any_of HT_.out (by kernel_rfl)) ?_
                                refine done_ (done_of HT_.out (by kernel_rfl)) ?_
                                try go_wp2
                                go_meet
                                case rel => exact ⟨_, (true), Z98, H', ⟨by have := HJ1.out; have := HK2.out; first | omega | exact Nat.le_refl _⟩, ⟨by (with_reducible repeat (first | refine blk_drewN ?_ _ | refine blk_drew ?_ | refine blk_alloc ?_ _)); exact BK140.out⟩, ⟨by (with_reducible repeat (first | refine blk_drewN ?_ _ | refine blk_drew ?_ | refine blk_alloc ?_ _)); exact BK144.out⟩, ⟨by repeat (first | (with_reducible first | exact HB.out | apply below_alloc | apply pw_below_drewN | apply below_drew1 | refine below_set ?_ GE140.out | refine below_set ?_ GE144.out) | exact HB.out)⟩⟩
                              · rw [if_neg c41] at H
                                have c41b0 : (t146 == 0) = false := beq_eq_false_iff_ne.mpr c41
                                have c41b1 : (t146 != 0) = true := bne_iff_ne.mpr c41
                                replace H := Option.bind_eq_some_iff.mp H
                                obtain ⟨t147, A440, H⟩ := H
                                replace H : (spec_FairOk.j2 k2 x3_2 (!t147) a0_0 a0_1 a0_2 a0_3 l0_4 ((rd_T136 l0_4 x3_2).f0) ((rd_T136 l0_4 x3_2).f1) ((rd_T136 l0_4 x3_2).f2) ((rd_T136 l0_4 x3_2).f3.f0) ((rd_T136 l0_4 x3_2).f3.f1) ((rd_T136 l0_4 x3_2).f3.f2)) = some r := H
                                have A44 := Aside0.mk A440
                                clear A440
                                have H' := Aside0.mk H
                                clear H
                                try go_wp2
                                have n0_ : Aside0 (((((((w24.setCell ⟨gb144, 0, none⟩ (.int .i64 ((rd_T136 l0_4 x3_2).f0))).setCell ⟨gb144, 1, none⟩ (.int .i64 ((rd_T136 l0_4 x3_2).f1))).setCell ⟨gb144, 2, none⟩ (.bool ((rd_T136 l0_4 x3_2).f2))).setCell ⟨gb144, 3, none⟩ (.int .i64 ((rd_T136 l0_4 x3_2).f3.f0))).setCell ⟨gb144, 4, none⟩ (.int .i64 ((rd_T136 l0_4 x3_2).f3.f1))).setCell ⟨gb144, 5, none⟩ (.int .i64 ((rd_T136 l0_4 x3_2).f3.f2))).heap[gb140]? = some (.cells #[.int .i64 a0_0, .int .i64 a0_1, .int .i64 a0_2, .int .i64 a0_3, .slice (some ad143) l0_4.length c0_4] 52 (0, 0))) := ⟨by (with_reducible repeat (first | refine blk_drewN ?_ _ | refine blk_drew ?_ | refine blk_alloc ?_ _)); refine blk_far ?_ NB140_144.out _; (with_reducible repeat (first | refine blk_drewN ?_ _ | refine blk_drew ?_ | refine blk_alloc ?_ _)); refine blk_far ?_ NB140_144.out _; (with_reducible repeat (first | refine blk_drewN ?_ _ | refine blk_drew ?_ | refine blk_alloc ?_ _)); refine blk_far ?_ NB140_144.out _; (with_reducible repeat (first | refine blk_drewN ?_ _ | refine blk_drew ?_ | refine blk_alloc ?_ _)); refine blk_far ?_ NB140_144.out _; (with_reducible repeat (first | refine blk_drewN ?_ _ | refine blk_drew ?_ | refine blk_alloc ?_ _)); refine blk_far ?_ NB140_144.out _; (with_reducible repeat (first | refine blk_drewN ?_ _ | refine blk_drew ?_ | refine blk_alloc ?_ _)); refine blk_far ?_ NB140_144.out _; (with_reducible repeat (first | refine blk_drewN ?_ _ | refine blk_drew ?_ | refine blk_alloc ?_ _)); exact BK140.out⟩
                                have n1_ : Aside0 (((((((w24.setCell ⟨gb144, 0, none⟩ (.int .i64 ((rd_T136 l0_4 x3_2).f0))).setCell ⟨gb144, 1, none⟩ (.int .i64 ((rd_T136 l0_4 x3_2).f1))).setCell ⟨gb144, 2, none⟩ (.bool ((rd_T136 l0_4 x3_2).f2))).setCell ⟨gb144, 3, none⟩ (.int .i64 ((rd_T136 l0_4 x3_2).f3.f0))).setCell ⟨gb144, 4, none⟩ (.int .i64 ((rd_T136 l0_4 x3_2).f3.f1))).setCell ⟨gb144, 5, none⟩ (.int .i64 ((rd_T136 l0_4 x3_2).f3.f2))).heap[gb144]? = some (.cells #[.int .i64 ((rd_T136 l0_4 x3_2).f0), .int .i64 ((rd_T136 l0_4 x3_2).f1), .bool ((rd_T136 l0_4 x3_2).f2), .int .i64 ((rd_T136 l0_4 x3_2).f3.f0), .int .i64 ((rd_T136 l0_4 x3_2).f3.f1), .int .i64 ((rd_T136 l0_4 x3_2).f3.f2)] 136 (0, 0))) := ⟨by (with_reducible repeat (first | refine blk_drewN ?_ _ | refine blk_drew ?_ | refine blk_alloc ?_ _)); refine blk_put (cs := #[.int .i64 ((rd_T136 l0_4 x3_2).f0), .int .i64 ((rd_T136 l0_4 x3_2).f1), .bool ((rd_T136 l0_4 x3_2).f2), .int .i64 ((rd_T136 l0_4 x3_2).f3.f0), .int .i64 ((rd_T136 l0_4 x3_2).f3.f1), .int .i64 0]) ?_ 5 _ rfl; (with_reducible repeat (first | refine blk_drewN ?_ _ | refine blk_drew ?_ | refine blk_alloc ?_ _)); refine blk_put (cs := #[.int .i64 ((rd_T136 l0_4 x3_2).f0), .int .i64 ((rd_T136 l0_4 x3_2).f1), .bool ((rd_T136 l0_4 x3_2).f2), .int .i64 ((rd_T136 l0_4 x3_2).f3.f0), .int .i64 0, .int .i64 0]) ?_ 4 _ rfl; (with_reducible repeat (first | refine blk_drewN ?_ _ | refine blk_drew ?_ | refine blk_alloc ?_ _)); refine blk_put (cs := #[.int .i64 ((rd_T136 l0_4 x3_2).f0), .int .i64 ((rd_T136 l0_4 x3_2).f1), .bool ((rd_T136 l0_4 x3_2).f2), .int .i64 0, .int .i64 0, .int .i64 0]) ?_ 3 _ rfl; (with_reducible repeat (first | refine blk_drewN ?_ _ | refine blk_drew ?_ | refine blk_alloc ?_ _)); refine blk_put (cs := #[.int .i64 ((rd_T136 l0_4 x3_2).f0), .int .i64 ((rd_T136 l0_4 x3_2).f1), .bool false, .int .i64 0, .int .i64 0, .int .i64 0]) ?_ 2 _ rfl; (with_reducible repeat (first | refine blk_drewN ?_ _ | refine blk_drew ?_ | refine blk_alloc ?_ _)); refine blk_put (cs := #[.int .i64 ((rd_T136 l0_4 x3_2).f0), .int .i64 0, .bool false, .int .i64 0, .int .i64 0, .int .i64 0]) ?_ 1 _ rfl; (with_reducible repeat (first | refine blk_drewN ?_ _ | refine blk_drew ?_ | refine blk_alloc ?_ _)); refine blk_put (cs := #[.int .i64 0, .int .i64 0, .bool false, .int .i64 0, .int .i64 0, .int .i64 0]) ?_ 0 _ rfl; (with_reducible repeat (first | refine blk_drewN ?_ _ | refine blk_drew ?_ | refine blk_alloc ?_ _)); exact BK144.out⟩
                                have n2_ : Aside0 (Below w.heap.size w ((((((w24.setCell ⟨gb144, 0, none⟩ (.int .i64 ((rd_T136 l0_4 x3_2).f0))).setCell ⟨gb144, 1, none⟩ (.int .i64 ((rd_T136 l0_4 x3_2).f1))).setCell ⟨gb144, 2, none⟩ (.bool ((rd_T136 l0_4 x3_2).f2))).setCell ⟨gb144, 3, none⟩ (.int .i64 ((rd_T136 l0_4 x3_2).f3.f0))).setCell ⟨gb144, 4, none⟩ (.int .i64 ((rd_T136 l0_4 x3_2).f3.f1))).setCell ⟨gb144, 5, none⟩ (.int .i64 ((rd_T136 l0_4 x3_2).f3.f2)))) := ⟨by repeat (first | (with_reducible first | exact HB.out | apply below_alloc | apply pw_below_drewN | apply below_drew1 | refine below_set ?_ GE140.out | refine below_set ?_ GE144.out) | exact HB.out)⟩
                                (try clear BK140)
                                (try clear BK144)
                                (try clear HB)
                                generalize ((((((w24.setCell ⟨gb144, 0, none⟩ (.int .i64 ((rd_T136 l0_4 x3_2).f0))).setCell ⟨gb144, 1, none⟩ (.int .i64 ((rd_T136 l0_4 x3_2).f1))).setCell ⟨gb144, 2, none⟩ (.bool ((rd_T136 l0_4 x3_2).f2))).setCell ⟨gb144, 3, none⟩ (.int .i64 ((rd_T136 l0_4 x3_2).f3.f0))).setCell ⟨gb144, 4, none⟩ (.int .i64 ((rd_T136 l0_4 x3_2).f3.f1))).setCell ⟨gb144, 5, none⟩ (.int .i64 ((rd_T136 l0_4 x3_2).f3.f2))) = w45 at n0_ n1_ n2_ ⊢
                                have BK140 := n0_
                                have BK144 := n1_
                                have HB := n2_
                                clear n0_ n1_ n2_
                                have n0_ := Aside0.mk (blk_drew BK140.out)
                                have n1_ := Aside0.mk (blk_drew BK144.out)
                                have n2_ := Aside0.mk (below_drew1 HB.out)
                                clear BK140
                                clear BK144
                                clear HB
                                have BK140 := n0_
                                have BK144 := n1_
                                have HB := n2_
                                clear n0_ n1_ n2_
                                have p145 : 0 ≤ ((ji34) : Int) := of_decide_eq_true Z97
                                have q145 : (ji34) < (l0_4.length : Int) := of_decide_eq_true Z97
                                obtain ⟨ad145, e145, hx145_0, hx145_1, hx145_2, hx145_3, hx145_4, hx145_5⟩ := at_T136 HR0_4.out (ji34) p145 q145
                                have hw145_5 := hx145_5
                                have hw145_4 := hx145_4
                                have hw145_3 := hx145_3
                                have hw145_2 := hx145_2
                                have hw145_1 := hx145_1
                                have hw145_0 := hx145_0
                                obtain rfl : ad143 = ad145 := (by injection e145)
                                replace hx145_0 := (HB.out.cell (World.block_lt_of_cell? w _ hx145_0)).trans hx145_0
                                replace hx145_1 := (HB.out.cell (World.block_lt_of_cell? w _ hx145_1)).trans hx145_1
                                replace hx145_2 := (HB.out.cell (World.block_lt_of_cell? w _ hx145_2)).trans hx145_2
                                replace hx145_3 := (HB.out.cell (World.block_lt_of_cell? w _ hx145_3)).trans hx145_3
                                replace hx145_4 := (HB.out.cell (World.block_lt_of_cell? w _ hx145_4)).trans hx145_4
                                replace hx145_5 := (HB.out.cell (World.block_lt_of_cell? w _ hx145_5)).trans hx145_5
                                replace p145 := eq_true p145
                                replace q145 := eq_true q145
                                refine start_ (n := 38) (S := fun w' => w'.cell? ⟨gb144, 0, none⟩ = some (.int .i64 ((rd_T136 l0_4 x3_2).f0)) ∧ w'.cell? ⟨gb144, 1, none⟩ = some (.int .i64 ((rd_T136 l0_4 x3_2).f1)) ∧ w'.cell? ⟨gb144, 2, none⟩ = some (.bool ((rd_T136 l0_4 x3_2).f2)) ∧ w'.cell? ⟨gb144, 3, none⟩ = some (.int .i64 ((rd_T136 l0_4 x3_2).f3.f0)) ∧ w'.cell? ⟨gb144, 4, none⟩ = some (.int .i64 ((rd_T136 l0_4 x3_2).f3.f1)) ∧ w'.cell? ⟨gb144, 5, none⟩ = some (.int .i64 ((rd_T136 l0_4 x3_2).f3.f2)) ∧ w'.cell? ⟨gb140, 0, none⟩ = some (.int .i64 a0_0) ∧ w'.cell? ⟨gb140, 1, none⟩ = some (.int .i64 a0_1) ∧ w'.cell? ⟨gb140, 2, none⟩ = some (.int .i64 a0_2) ∧ w'.cell? ⟨gb140, 3, none⟩ = some (.int .i64 a0_3) ∧ w'.cell? ⟨gb140, 4, none⟩ = some (.slice (some ad143) l0_4.length c0_4) ∧ w'.cell? (ad143.add (((ji34)).toNat * 6)) = some (.int .i64 ((rd_T136 l0_4 (ji34)).f0)) ∧ w'.cell? ⟨(ad143.add (((ji34)).toNat * 6)).block, (ad143.add (((ji34)).toNat * 6)).off + 1, none⟩ = some (.int .i64 ((rd_T136 l0_4 (ji34)).f1)) ∧ w'.cell? ⟨(ad143.add (((ji34)).toNat * 6)).block, (ad143.add (((ji34)).toNat * 6)).off + 2, none⟩ = some (.bool ((rd_T136 l0_4 (ji34)).f2)) ∧ w'.cell? ⟨(ad143.add (((ji34)).toNat * 6)).block, (ad143.add (((ji34)).toNat * 6)).off + 3, none⟩ = some (.int .i64 ((rd_T136 l0_4 (ji34)).f3.f0)) ∧ w'.cell? ⟨(ad143.add (((ji34)).toNat * 6)).block, (ad143.add (((ji34)).toNat * 6)).off + 4, none⟩ = some (.int .i64 ((rd_T136 l0_4 (ji34)).f3.f1)) ∧ w'.cell? ⟨(ad143.add (((ji34)).toNat * 6)).block, (ad143.add (((ji34)).toNat * 6)).off + 5, none⟩ = some (.int .i64 ((rd_T136 l0_4 (ji34)).f3.f2))) (ds := []) (bz 38 0) (by kernel_rfl) rfl (by kernel_rfl) ⟨(blk_cell BK144.out 0).trans rfl, (blk_cell BK144.out 1).trans rfl, (blk_cell BK144.out 2).trans rfl, (blk_cell BK144.out 3).trans rfl, (blk_cell BK144.out 4).trans rfl, (blk_cell BK144.out 5).trans rfl, (blk_cell BK140.out 0).trans rfl, (blk_cell BK140.out 1).trans rfl, (blk_cell BK140.out 2).trans rfl, (blk_cell BK140.out 3).trans rfl, (blk_cell BK140.out 4).trans rfl, ((HB.out.cell (World.block_lt_of_cell? w _ hw145_0)).trans hw145_0), ((HB.out.cell (World.block_lt_of_cell? w _ hw145_1)).trans hw145_1), ((HB.out.cell (World.block_lt_of_cell? w _ hw145_2)).trans hw145_2), ((HB.out.cell (World.block_lt_of_cell? w _ hw145_3)).trans hw145_3), ((HB.out.cell (World.block_lt_of_cell? w _ hw145_4)).trans hw145_4), ((HB.out.cell (World.block_lt_of_cell? w _ hw145_5)).trans hw145_5)⟩ (fun hHeld => ?_); refine with_tabW spec_FairOk.tab7 spec_FairOk.bits7 (fun HT_ HW_ => ?_)
                                generalize w45.drew = w46 at BK140 BK144 HB hx145_0 hx145_1 hx145_2 hx145_3 hx145_4 hx145_5 hHeld ⊢
                                refine px_ (i := 0) (N := some 35) (bz 38 1) (any_of HT_.out (by kernel_rfl)) ?_
                                refine tx_ (i := 1) (N := some 36) (bz 38 3) rfl rfl (take_ofW HT_.out HW_.out (by kernel_rfl)) hHeld Z86 ?_
                                refine px_ (i := 2) (N := some 37) (bz 38 7) (any_of HT_.out (by kernel_rfl)) ?_
                                refine px_ (i := 3) (N := some 38) (bz 38 15) (any_of HT_.out (by kernel_rfl)) ?_
                                refine px_ (i := 4) (N := some 39) (bz 38 31) (any_of HT_.out (by kernel_rfl)) ?_
                                refine tx_ (i := 5) (N := some 40) (bz 38 63) rfl rfl (take_ofW HT_.out HW_.out (by kernel_rfl)) hHeld Z86 ?_
                                refine px_ (i := 6) (N := some 41) (bz 38 127) (any_of HT_.out (by kernel_rfl)) ?_
                                refine px_ (i := 7) (N := some 42) (bz 38 255) (any_of HT_.out (by kernel_rfl)) ?_
                                refine px_ (i := 8) (N := some 43) (bz 38 511) (any_of HT_.out (by kernel_rfl)) ?_
                                refine px_ (i := 9) (N := some 44) (bz 38 1023) (any_of HT_.out (by kernel_rfl)) ?_
                                refine px_ (i := 10) (N := some 45) (bz 38 2047) (any_of HT_.out (by kernel_rfl)) ?_
                                refine px_ (i := 11) (N := some 46) (bz 38 4095) (any_of HT_.out (by kernel_rfl)) ?_
                                refine px_ (i := 12) (N := some 47) (bz 38 8191) (any_of HT_.out (by kernel_rfl)) ?_
                                refine px_ (i := 14) (N := some 49) (bz 38 24575) (any_of HT_.out (by kernel_rfl)) ?_
                                refine px_ (i := 15) (N := some 50) (bz 38 57343) (any_of HT_.out (by kernel_rfl)) ?_
                                refine px_ (i := 19) (N := some 54) (bz 38 581631) (any_of HT_.out (by kernel_rfl)) ?_
                                refine tx_ (i := 13) (N := some 48) (bz 38 589823) rfl rfl (take_ofW HT_.out HW_.out (by kernel_rfl)) hHeld Z86 ?_
                                refine px_ (i := 16) (N := some 51) (bz 38 655359) (any_of HT_.out (by kernel_rfl)) ?_
                                refine px_ (i := 17) (N := some 52) (bz 38 786431) (any_of HT_.out (by kernel_rfl)) ?_
                                refine tx_ (i := 18) (N := some 53) (bz 38 1048575) rfl rfl (take_ofW HT_.out HW_.out (by kernel_rfl)) hHeld Z86 ?_
                                refine tx_ (i := 20) (N := some 55) (bz 38 2097151) rfl rfl (take_ofW HT_.out HW_.out (by kernel_rfl)) hHeld Z86 ?_
                                refine px_ (i := 21) (N := some 56) (bz 38 4194303) (any_of HT_.out (by kernel_rfl)) ?_
                                refine px_ (i := 22) (N := some 57) (bz 38 8388607) (any_of HT_.out (by kernel_rfl)) ?_
                                refine px_ (i := 23) (N := some 58) (bz 38 16777215) (any_of HT_.out (by kernel_rfl)) ?_
                                refine px_ (i := 24) (N := some 59) (bz 38 33554431) (any_of HT_.out (by kernel_rfl)) ?_
                                refine px_ (i := 25) (N := some 60) (bz 38 67108863) (any_of HT_.out (by kernel_rfl)) ?_
                                refine tx_ (i := 26) (N := some 61) (bz 38 134217727) rfl rfl (take_ofW HT_.out HW_.out (by kernel_rfl)) hHeld Z86 ?_
                                refine one_ (i := 27) (N := some 62) (bz 38 268435455) rfl rfl (one_of HT_.out (by kernel_rfl)) (by decide) (fun K hK => ?_)
                                refine goes_ Try.func61 (by kernel_rfl) rfl #[.int .i64 ((rd_T136 l0_4 x3_2).f1)] (by rfl) rfl rfl Z41 ?_
                                with_reducible refine (spec_Stride.calls ((rd_T136 l0_4 x3_2).f1) t146 _ A40.out).mono ?_
                                rintro e w' ⟨rfl, ⟨nd, rfl⟩⟩
                                refine ⟨_, rfl, ?_⟩
                                refine hK.out _ _ ⟨(blk_cell BK144.out 0).trans rfl, (blk_cell BK144.out 1).trans rfl, (blk_cell BK144.out 2).trans rfl, (blk_cell BK144.out 3).trans rfl, (blk_cell BK144.out 4).trans rfl, (blk_cell BK144.out 5).trans rfl, (blk_cell BK140.out 0).trans rfl, (blk_cell BK140.out 1).trans rfl, (blk_cell BK140.out 2).trans rfl, (blk_cell BK140.out 3).trans rfl, (blk_cell BK140.out 4).trans rfl, ((HB.out.cell (World.block_lt_of_cell? w _ hw145_0)).trans hw145_0), ((HB.out.cell (World.block_lt_of_cell? w _ hw145_1)).trans hw145_1), ((HB.out.cell (World.block_lt_of_cell? w _ hw145_2)).trans hw145_2), ((HB.out.cell (World.block_lt_of_cell? w _ hw145_3)).trans hw145_3), ((HB.out.cell (World.block_lt_of_cell? w _ hw145_4)).trans hw145_4), ((HB.out.cell (World.block_lt_of_cell? w _ hw145_5)).trans hw145_5)⟩ (fun hHeld => ?_)
                                clear hK K
                                refine nx_ (N := some 62) ?_
                                refine px_ (i := 28) (N := some 63) (bz 38 536870911) (any_of HT_.out (by kernel_rfl)) ?_
                                refine px_ (i := 29) (N := some 64) (bz 38 1073741823) (any_of HT_.out (by kernel_rfl)) ?_
                                refine px_ (i := 30) (N := some 65) (bz 38 2147483647) (any_of HT_.out (by kernel_rfl)) ?_
                                refine px_ (i := 31) (N := some 66) (bz 38 4294967295) (any_of HT_.out (by kernel_rfl)) ?_
                                refine px_ (i := 33) (N := some 68) (bz 38 12884901887) (any_of HT_.out (by kernel_rfl)) ?_
                                refine tx_ (i := 32) (N := some 67) (bz 38 17179869183) rfl rfl (take_ofW HT_.out HW_.out (by kernel_rfl)) hHeld Z86 ?_
                                refine tx_ (i := 34) (N := some 69) (bz 38 34359738367) rfl rfl (take_ofW HT_.out HW_.out (by kernel_rfl)) hHeld Z86 ?_
                                refine one_ (i := 35) (N := some 70) (bz 38 68719476735) rfl rfl (one_of HT_.out (by kernel_rfl)) (by decide) (fun K hK => ?_)
                                refine goes_ Try.func151 (by kernel_rfl) rfl #[.agg #[.int .i64 ((rd_T136 l0_4 x3_2).f3.f0), .int .i64 ((rd_T136 l0_4 x3_2).f3.f1), .int .i64 ((rd_T136 l0_4 x3_2).f3.f2)], .int .i64 a0_0] (by rfl) rfl rfl Z41 ?_
                                with_reducible refine (spec_Narrow.calls ((rd_T136 l0_4 x3_2).f3.f0) ((rd_T136 l0_4 x3_2).f3.f1) ((rd_T136 l0_4 x3_2).f3.f2) a0_0 t147 _ A44.out).mono ?_
                                rintro e w47 ⟨rfl, hb⟩
                                refine ⟨_, rfl, ?_⟩
                                have n0_ := Aside0.mk (blk_below (g := gb140) (o := .cells #[.int .i64 a0_0, .int .i64 a0_1, .int .i64 a0_2, .int .i64 a0_3, .slice (some ad143) l0_4.length c0_4] 52 (0, 0)) Z59 hb)
                                have n1_ := Aside0.mk (blk_below (g := gb144) (o := .cells #[.int .i64 ((rd_T136 l0_4 x3_2).f0), .int .i64 ((rd_T136 l0_4 x3_2).f1), .bool ((rd_T136 l0_4 x3_2).f2), .int .i64 ((rd_T136 l0_4 x3_2).f3.f0), .int .i64 ((rd_T136 l0_4 x3_2).f3.f1), .int .i64 ((rd_T136 l0_4 x3_2).f3.f2)] 136 (0, 0)) Z60 hb)
                                have n2_ := Aside0.mk (below_step Z8 hb)
                                clear BK140
                                clear BK144
                                clear HB
                                have BK140 := n0_
                                have BK144 := n1_
                                have HB := n2_
                                clear n0_ n1_ n2_
                                (try clear hb)
                                (try clear hb2)
                                (try clear hk)
                                (try clear hi)
                                refine hK.out _ _ ⟨(blk_cell BK144.out 0).trans rfl, (blk_cell BK144.out 1).trans rfl, (blk_cell BK144.out 2).trans rfl, (blk_cell BK144.out 3).trans rfl, (blk_cell BK144.out 4).trans rfl, (blk_cell BK144.out 5).trans rfl, (blk_cell BK140.out 0).trans rfl, (blk_cell BK140.out 1).trans rfl, (blk_cell BK140.out 2).trans rfl, (blk_cell BK140.out 3).trans rfl, (blk_cell BK140.out 4).trans rfl, ((HB.out.cell (World.block_lt_of_cell? w _ hw145_0)).trans hw145_0), ((HB.out.cell (World.block_lt_of_cell? w _ hw145_1)).trans hw145_1), ((HB.out.cell (World.block_lt_of_cell? w _ hw145_2)).trans hw145_2), ((HB.out.cell (World.block_lt_of_cell? w _ hw145_3)).trans hw145_3), ((HB.out.cell (World.block_lt_of_cell? w _ hw145_4)).trans hw145_4), ((HB.out.cell (World.block_lt_of_cell? w _ hw145_5)).trans hw145_5)⟩ (fun hHeld => ?_)
                                clear hK K
                                refine nx_ (N := some 70) ?_
                                refine px_ (i := 36) (N := some 71) (bz 38 137438953471) (any_of HT_.out (by kernel_rfl)) ?_
                                refine px_ (i := 37) (N := some 72) (bz 38 274877906943) (any_of HT_.out (by kernel_rfl)) ?_
                                refine done_ (done_of HT_.out (by kernel_rfl)) ?_
                                try go_wp2
                                go_meet
                                case rel => exact ⟨_, (!t147), Z98, H', ⟨by have := HJ1.out; have := HK2.out; first | omega | exact Nat.le_refl _⟩, ⟨by (with_reducible repeat (first | refine blk_drewN ?_ _ | refine blk_drew ?_ | refine blk_alloc ?_ _)); exact BK140.out⟩, ⟨by (with_reducible repeat (first | refine blk_drewN ?_ _ | refine blk_drew ?_ | refine blk_alloc ?_ _)); exact BK144.out⟩, ⟨by repeat (first | (with_reducible first | exact HB.out | apply below_alloc | apply pw_below_drewN | apply below_drew1 | refine below_set ?_ GE140.out | refine below_set ?_ GE144.out) | exact HB.out)⟩⟩
                          · rw [if_neg c36] at H
                            exact absurd H (by simp)
                        · rw [if_neg c35] at H
                          exact absurd H (by simp)
                      · rw [if_neg c33] at H
                        have c33b0 : decide (0 < x3_2) = false := decide_eq_false c33
                        clear c33
                        replace H := Option.bind_eq_some_iff.mp H
                        obtain ⟨t148, A480, H⟩ := H
                        replace H : (if t148 = 0 then (spec_FairOk.j2 k2 x3_2 true a0_0 a0_1 a0_2 a0_3 l0_4 ((rd_T136 l0_4 x3_2).f0) ((rd_T136 l0_4 x3_2).f1) ((rd_T136 l0_4 x3_2).f2) ((rd_T136 l0_4 x3_2).f3.f0) ((rd_T136 l0_4 x3_2).f3.f1) ((rd_T136 l0_4 x3_2).f3.f2)) else ((spec_Narrow.f ((rd_T136 l0_4 x3_2).f3.f0) ((rd_T136 l0_4 x3_2).f3.f1) ((rd_T136 l0_4 x3_2).f3.f2) a0_0).bind fun t149 => (spec_FairOk.j2 k2 x3_2 (!t149) a0_0 a0_1 a0_2 a0_3 l0_4 ((rd_T136 l0_4 x3_2).f0) ((rd_T136 l0_4 x3_2).f1) ((rd_T136 l0_4 x3_2).f2) ((rd_T136 l0_4 x3_2).f3.f0) ((rd_T136 l0_4 x3_2).f3.f1) ((rd_T136 l0_4 x3_2).f3.f2)))) = some r := H
                        have A48 := Aside0.mk A480
                        clear A480
                        by_cases c49 : t148 = 0
                        · rw [if_pos c49] at H
                          have c49b0 : (t148 == 0) = true := beq_iff_eq.mpr c49
                          have c49b1 : (t148 != 0) = false := bne_eq_false_iff_eq.mpr c49
                          clear c49
                          have H' := Aside0.mk H
                          clear H
                          try go_wp2
                          have n0_ : Aside0 (((((((w24.setCell ⟨gb144, 0, none⟩ (.int .i64 ((rd_T136 l0_4 x3_2).f0))).setCell ⟨gb144, 1, none⟩ (.int .i64 ((rd_T136 l0_4 x3_2).f1))).setCell ⟨gb144, 2, none⟩ (.bool ((rd_T136 l0_4 x3_2).f2))).setCell ⟨gb144, 3, none⟩ (.int .i64 ((rd_T136 l0_4 x3_2).f3.f0))).setCell ⟨gb144, 4, none⟩ (.int .i64 ((rd_T136 l0_4 x3_2).f3.f1))).setCell ⟨gb144, 5, none⟩ (.int .i64 ((rd_T136 l0_4 x3_2).f3.f2))).heap[gb140]? = some (.cells #[.int .i64 a0_0, .int .i64 a0_1, .int .i64 a0_2, .int .i64 a0_3, .slice (some ad143) l0_4.length c0_4] 52 (0, 0))) := ⟨by (with_reducible repeat (first | refine blk_drewN ?_ _ | refine blk_drew ?_ | refine blk_alloc ?_ _)); refine blk_far ?_ NB140_144.out _; (with_reducible repeat (first | refine blk_drewN ?_ _ | refine blk_drew ?_ | refine blk_alloc ?_ _)); refine blk_far ?_ NB140_144.out _; (with_reducible repeat (first | refine blk_drewN ?_ _ | refine blk_drew ?_ | refine blk_alloc ?_ _)); refine blk_far ?_ NB140_144.out _; (with_reducible repeat (first | refine blk_drewN ?_ _ | refine blk_drew ?_ | refine blk_alloc ?_ _)); refine blk_far ?_ NB140_144.out _; (with_reducible repeat (first | refine blk_drewN ?_ _ | refine blk_drew ?_ | refine blk_alloc ?_ _)); refine blk_far ?_ NB140_144.out _; (with_reducible repeat (first | refine blk_drewN ?_ _ | refine blk_drew ?_ | refine blk_alloc ?_ _)); refine blk_far ?_ NB140_144.out _; (with_reducible repeat (first | refine blk_drewN ?_ _ | refine blk_drew ?_ | refine blk_alloc ?_ _)); exact BK140.out⟩
                          have n1_ : Aside0 (((((((w24.setCell ⟨gb144, 0, none⟩ (.int .i64 ((rd_T136 l0_4 x3_2).f0))).setCell ⟨gb144, 1, none⟩ (.int .i64 ((rd_T136 l0_4 x3_2).f1))).setCell ⟨gb144, 2, none⟩ (.bool ((rd_T136 l0_4 x3_2).f2))).setCell ⟨gb144, 3, none⟩ (.int .i64 ((rd_T136 l0_4 x3_2).f3.f0))).setCell ⟨gb144, 4, none⟩ (.int .i64 ((rd_T136 l0_4 x3_2).f3.f1))).setCell ⟨gb144, 5, none⟩ (.int .i64 ((rd_T136 l0_4 x3_2).f3.f2))).heap[gb144]? = some (.cells #[.int .i64 ((rd_T136 l0_4 x3_2).f0), .int .i64 ((rd_T136 l0_4 x3_2).f1), .bool ((rd_T136 l0_4 x3_2).f2), .int .i64 ((rd_T136 l0_4 x3_2).f3.f0), .int .i64 ((rd_T136 l0_4 x3_2).f3.f1), .int .i64 ((rd_T136 l0_4 x3_2).f3.f2)] 136 (0, 0))) := ⟨by (with_reducible repeat (first | refine blk_drewN ?_ _ | refine blk_drew ?_ | refine blk_alloc ?_ _)); refine blk_put (cs := #[.int .i64 ((rd_T136 l0_4 x3_2).f0), .int .i64 ((rd_T136 l0_4 x3_2).f1), .bool ((rd_T136 l0_4 x3_2).f2), .int .i64 ((rd_T136 l0_4 x3_2).f3.f0), .int .i64 ((rd_T136 l0_4 x3_2).f3.f1), .int .i64 0]) ?_ 5 _ rfl; (with_reducible repeat (first | refine blk_drewN ?_ _ | refine blk_drew ?_ | refine blk_alloc ?_ _)); refine blk_put (cs := #[.int .i64 ((rd_T136 l0_4 x3_2).f0), .int .i64 ((rd_T136 l0_4 x3_2).f1), .bool ((rd_T136 l0_4 x3_2).f2), .int .i64 ((rd_T136 l0_4 x3_2).f3.f0), .int .i64 0, .int .i64 0]) ?_ 4 _ rfl; (with_reducible repeat (first | refine blk_drewN ?_ _ | refine blk_drew ?_ | refine blk_alloc ?_ _)); refine blk_put (cs := #[.int .i64 ((rd_T136 l0_4 x3_2).f0), .int .i64 ((rd_T136 l0_4 x3_2).f1), .bool ((rd_T136 l0_4 x3_2).f2), .int .i64 0, .int .i64 0, .int .i64 0]) ?_ 3 _ rfl; (with_reducible repeat (first | refine blk_drewN ?_ _ | refine blk_drew ?_ | refine blk_alloc ?_ _)); refine blk_put (cs := #[.int .i64 ((rd_T136 l0_4 x3_2).f0), .int .i64 ((rd_T136 l0_4 x3_2).f1), .bool false, .int .i64 0, .int .i64 0, .int .i64 0]) ?_ 2 _ rfl; (with_reducible repeat (first | refine blk_drewN ?_ _ | refine blk_drew ?_ | refine blk_alloc ?_ _)); refine blk_put (cs := #[.int .i64 ((rd_T136 l0_4 x3_2).f0), .int .i64 0, .bool false, .int .i64 0, .int .i64 0, .int .i64 0]) ?_ 1 _ rfl; (with_reducible repeat (first | refine blk_drewN ?_ _ | refine blk_drew ?_ | refine blk_alloc ?_ _)); refine blk_put (cs := #[.int .i64 0, .int .i64 0, .bool false, .int .i64 0, .int .i64 0, .int .i64 0]) ?_ 0 _ rfl; (with_reducible repeat (first | refine blk_drewN ?_ _ | refine blk_drew ?_ | refine blk_alloc ?_ _)); exact BK144.out⟩
                          have n2_ : Aside0 (Below w.heap.size w ((((((w24.setCell ⟨gb144, 0, none⟩ (.int .i64 ((rd_T136 l0_4 x3_2).f0))).setCell ⟨gb144, 1, none⟩ (.int .i64 ((rd_T136 l0_4 x3_2).f1))).setCell ⟨gb144, 2, none⟩ (.bool ((rd_T136 l0_4 x3_2).f2))).setCell ⟨gb144, 3, none⟩ (.int .i64 ((rd_T136 l0_4 x3_2).f3.f0))).setCell ⟨gb144, 4, none⟩ (.int .i64 ((rd_T136 l0_4 x3_2).f3.f1))).setCell ⟨gb144, 5, none⟩ (.int .i64 ((rd_T136 l0_4 x3_2).f3.f2)))) := ⟨by repeat (first | (with_reducible first | exact HB.out | apply below_alloc | apply pw_below_drewN | apply below_drew1 | refine below_set ?_ GE140.out | refine below_set ?_ GE144.out) | exact HB.out)⟩
                          (try clear BK140)
                          (try clear BK144)
                          (try clear HB)
                          generalize ((((((w24.setCell ⟨gb144, 0, none⟩ (.int .i64 ((rd_T136 l0_4 x3_2).f0))).setCell ⟨gb144, 1, none⟩ (.int .i64 ((rd_T136 l0_4 x3_2).f1))).setCell ⟨gb144, 2, none⟩ (.bool ((rd_T136 l0_4 x3_2).f2))).setCell ⟨gb144, 3, none⟩ (.int .i64 ((rd_T136 l0_4 x3_2).f3.f0))).setCell ⟨gb144, 4, none⟩ (.int .i64 ((rd_T136 l0_4 x3_2).f3.f1))).setCell ⟨gb144, 5, none⟩ (.int .i64 ((rd_T136 l0_4 x3_2).f3.f2))) = w50 at n0_ n1_ n2_ ⊢
                          have BK140 := n0_
                          have BK144 := n1_
                          have HB := n2_
                          clear n0_ n1_ n2_
                          have n0_ := Aside0.mk (blk_drew BK140.out)
                          have n1_ := Aside0.mk (blk_drew BK144.out)
                          have n2_ := Aside0.mk (below_drew1 HB.out)
                          clear BK140
                          clear BK144
                          clear HB
                          have BK140 := n0_
                          have BK144 := n1_
                          have HB := n2_
                          clear n0_ n1_ n2_
                          refine start_ (n := 38) (S := fun w' => w'.cell? ⟨gb144, 0, none⟩ = some (.int .i64 ((rd_T136 l0_4 x3_2).f0)) ∧ w'.cell? ⟨gb144, 1, none⟩ = some (.int .i64 ((rd_T136 l0_4 x3_2).f1)) ∧ w'.cell? ⟨gb144, 2, none⟩ = some (.bool ((rd_T136 l0_4 x3_2).f2)) ∧ w'.cell? ⟨gb144, 3, none⟩ = some (.int .i64 ((rd_T136 l0_4 x3_2).f3.f0)) ∧ w'.cell? ⟨gb144, 4, none⟩ = some (.int .i64 ((rd_T136 l0_4 x3_2).f3.f1)) ∧ w'.cell? ⟨gb144, 5, none⟩ = some (.int .i64 ((rd_T136 l0_4 x3_2).f3.f2))) (ds := []) (bz 38 0) (by kernel_rfl) rfl (by kernel_rfl) ⟨(blk_cell BK144.out 0).trans rfl, (blk_cell BK144.out 1).trans rfl, (blk_cell BK144.out 2).trans rfl, (blk_cell BK144.out 3).trans rfl, (blk_cell BK144.out 4).trans rfl, (blk_cell BK144.out 5).trans rfl⟩ (fun hHeld => ?_); refine with_tabW spec_FairOk.tab7 spec_FairOk.bits7 (fun HT_ HW_ => ?_)
                          generalize w50.drew = w51 at BK140 BK144 HB hHeld ⊢
                          refine px_ (i := 0) (N := some 35) (bz 38 1) (any_of HT_.out (by kernel_rfl)) ?_
                          refine tx_ (i := 1) (N := some 36) (bz 38 3) rfl rfl (take_ofW HT_.out HW_.out (by kernel_rfl)) hHeld Z95 ?_
                          refine px_ (i := 2) (N := some 37) (bz 38 7) (any_of HT_.out (by kernel_rfl)) ?_
                          refine px_ (i := 3) (N := some 38) (bz 38 15) (any_of HT_.out (by kernel_rfl)) ?_
                          refine px_ (i := 4) (N := some 39) (bz 38 31) (any_of HT_.out (by kernel_rfl)) ?_
                          refine tx_ (i := 5) (N := some 40) (bz 38 63) rfl rfl (take_ofW HT_.out HW_.out (by kernel_rfl)) hHeld Z95 ?_
                          refine px_ (i := 6) (N := some 41) (bz 38 127) (any_of HT_.out (by kernel_rfl)) ?_
                          refine px_ (i := 7) (N := some 42) (bz 38 255) (any_of HT_.out (by kernel_rfl)) ?_
                          refine px_ (i := 8) (N := some 43) (bz 38 511) (any_of HT_.out (by kernel_rfl)) ?_
                          refine px_ (i := 9) (N := some 44) (bz 38 1023) (any_of HT_.out (by kernel_rfl)) ?_
                          refine px_ (i := 10) (N := some 45) (bz 38 2047) (any_of HT_.out (by kernel_rfl)) ?_
                          refine px_ (i := 11) (N := some 46) (bz 38 4095) (any_of HT_.out (by kernel_rfl)) ?_
                          refine ox_ (i := 12) (N := some 47) (bz 38 8191) (any_of HT_.out (by kernel_rfl)) ?_
                          refine ox_ (i := 13) (N := some 48) (bz 38 16383) (any_of HT_.out (by kernel_rfl)) ?_
                          refine ox_ (i := 14) (N := some 49) (bz 38 32767) (any_of HT_.out (by kernel_rfl)) ?_
                          refine ox_ (i := 15) (N := some 50) (bz 38 65535) (any_of HT_.out (by kernel_rfl)) ?_
                          refine ox_ (i := 16) (N := some 51) (bz 38 131071) (any_of HT_.out (by kernel_rfl)) ?_
                          refine ox_ (i := 17) (N := some 52) (bz 38 262143) (any_of HT_.out (by kernel_rfl)) ?_
                          refine ox_ (i := 18) (N := some 53) (bz 38 524287) (any_of HT_.out (by kernel_rfl)) ?_
                          refine ox_ (i := 19) (N := some 54) (bz 38 1048575) (any_of HT_.out (by kernel_rfl)) ?_
                          refine ox_ (i := 20) (N := some 55) (bz 38 2097151) (any_of HT_.out (by kernel_rfl)) ?_
                          refine ox_ (i := 21) (N := some 56) (bz 38 4194303) (any_of HT_.out (by kernel_rfl)) ?_
                          refine px_ (i := 22) (N := some 57) (bz 38 8388607) (any_of HT_.out (by kernel_rfl)) ?_
                          refine px_ (i := 23) (N := some 58) (bz 38 16777215) (any_of HT_.out (by kernel_rfl)) ?_
                          refine px_ (i := 24) (N := some 59) (bz 38 33554431) (any_of HT_.out (by kernel_rfl)) ?_
                          refine px_ (i := 25) (N := some 60) (bz 38 67108863) (any_of HT_.out (by kernel_rfl)) ?_
                          refine tx_ (i := 26) (N := some 61) (bz 38 134217727) rfl rfl (take_ofW HT_.out HW_.out (by kernel_rfl)) hHeld Z95 ?_
                          refine one_ (i := 27) (N := some 62) (bz 38 268435455) rfl rfl (one_of HT_.out (by kernel_rfl)) (by decide) (fun K hK => ?_)
                          refine goes_ Try.func61 (by kernel_rfl) rfl #[.int .i64 ((rd_T136 l0_4 x3_2).f1)] (by rfl) rfl rfl Z41 ?_
                          with_reducible refine (spec_Stride.calls ((rd_T136 l0_4 x3_2).f1) t148 _ A48.out).mono ?_
                          rintro e w' ⟨rfl, ⟨nd, rfl⟩⟩
                          refine ⟨_, rfl, ?_⟩
                          refine hK.out _ _ ⟨(blk_cell BK144.out 0).trans rfl, (blk_cell BK144.out 1).trans rfl, (blk_cell BK144.out 2).trans rfl, (blk_cell BK144.out 3).trans rfl, (blk_cell BK144.out 4).trans rfl, (blk_cell BK144.out 5).trans rfl⟩ (fun hHeld => ?_)
                          clear hK K
                          refine nx_ (N := some 62) ?_
                          refine px_ (i := 28) (N := some 63) (bz 38 536870911) (any_of HT_.out (by kernel_rfl)) ?_
                          refine px_ (i := 29) (N := some 64) (bz 38 1073741823) (any_of HT_.out (by kernel_rfl)) ?_
                          refine px_ (i := 30) (N := some 65) (bz 38 2147483647) (any_of HT_.out (by kernel_rfl)) ?_
                          refine ox_ (i := 31) (N := some 66) (bz 38 4294967295) (any_of HT_.out (by kernel_rfl)) ?_
                          refine ox_ (i := 32) (N := some 67) (bz 38 8589934591) (any_of HT_.out (by kernel_rfl)) ?_
                          refine ox_ (i := 33) (N := some 68) (bz 38 17179869183) (any_of HT_.out (by kernel_rfl)) ?_
                          refine ox_ (i := 34) (N := some 69) (bz 38 34359738367) (any_of HT_.out (by kernel_rfl)) ?_
                          refine ox_ (i := 35) (N := some 70) (bz 38 68719476735) (any_of HT_.out (by kernel_rfl)) ?_
                          refine ox_ (i := 36) (N := some 71) (bz 38 137438953471) (any_of HT_.out (by kernel_rfl)) ?_
                          refine px_ (i := 37) (N := some 72) (bz 38 274877906943) (any_of HT_.out (by kernel_rfl)) ?_
                          refine done_ (done_of HT_.out (by kernel_rfl)) ?_
                          try go_wp2
                          go_meet
                          case rel => exact ⟨_, (true), Z98, H', ⟨by have := HJ1.out; have := HK2.out; first | omega | exact Nat.le_refl _⟩, ⟨by (with_reducible repeat (first | refine blk_drewN ?_ _ | refine blk_drew ?_ | refine blk_alloc ?_ _)); exact BK140.out⟩, ⟨by (with_reducible repeat (first | refine blk_drewN ?_ _ | refine blk_drew ?_ | refine blk_alloc ?_ _)); exact BK144.out⟩, ⟨by repeat (first | (with_reducible first | exact HB.out | apply below_alloc | apply pw_below_drewN | apply below_drew1 | refine below_set ?_ GE140.out | refine below_set ?_ GE144.out) | exact HB.out)⟩⟩
                        · rw [if_neg c49] at H
                          have c49b0 : (t148 == 0) = false := beq_eq_false_iff_ne.mpr c49
                          have c49b1 : (t148 != 0) = true := bne_iff_ne.mpr c49
                          replace H := Option.bind_eq_some_iff.mp H
                          obtain ⟨t149, A520, H⟩ := H
                          replace H : (spec_FairOk.j2 k2 x3_2 (!t149) a0_0 a0_1 a0_2 a0_3 l0_4 ((rd_T136 l0_4 x3_2).f0) ((rd_T136 l0_4 x3_2).f1) ((rd_T136 l0_4 x3_2).f2) ((rd_T136 l0_4 x3_2).f3.f0) ((rd_T136 l0_4 x3_2).f3.f1) ((rd_T136 l0_4 x3_2).f3.f2)) = some r := H
                          have A52 := Aside0.mk A520
                          clear A520
                          have H' := Aside0.mk H
                          clear H
                          try go_wp2
                          have n0_ : Aside0 (((((((w24.setCell ⟨gb144, 0, none⟩ (.int .i64 ((rd_T136 l0_4 x3_2).f0))).setCell ⟨gb144, 1, none⟩ (.int .i64 ((rd_T136 l0_4 x3_2).f1))).setCell ⟨gb144, 2, none⟩ (.bool ((rd_T136 l0_4 x3_2).f2))).setCell ⟨gb144, 3, none⟩ (.int .i64 ((rd_T136 l0_4 x3_2).f3.f0))).setCell ⟨gb144, 4, none⟩ (.int .i64 ((rd_T136 l0_4 x3_2).f3.f1))).setCell ⟨gb144, 5, none⟩ (.int .i64 ((rd_T136 l0_4 x3_2).f3.f2))).heap[gb140]? = some (.cells #[.int .i64 a0_0, .int .i64 a0_1, .int .i64 a0_2, .int .i64 a0_3, .slice (some ad143) l0_4.length c0_4] 52 (0, 0))) := ⟨by (with_reducible repeat (first | refine blk_drewN ?_ _ | refine blk_drew ?_ | refine blk_alloc ?_ _)); refine blk_far ?_ NB140_144.out _; (with_reducible repeat (first | refine blk_drewN ?_ _ | refine blk_drew ?_ | refine blk_alloc ?_ _)); refine blk_far ?_ NB140_144.out _; (with_reducible repeat (first | refine blk_drewN ?_ _ | refine blk_drew ?_ | refine blk_alloc ?_ _)); refine blk_far ?_ NB140_144.out _; (with_reducible repeat (first | refine blk_drewN ?_ _ | refine blk_drew ?_ | refine blk_alloc ?_ _)); refine blk_far ?_ NB140_144.out _; (with_reducible repeat (first | refine blk_drewN ?_ _ | refine blk_drew ?_ | refine blk_alloc ?_ _)); refine blk_far ?_ NB140_144.out _; (with_reducible repeat (first | refine blk_drewN ?_ _ | refine blk_drew ?_ | refine blk_alloc ?_ _)); refine blk_far ?_ NB140_144.out _; (with_reducible repeat (first | refine blk_drewN ?_ _ | refine blk_drew ?_ | refine blk_alloc ?_ _)); exact BK140.out⟩
                          have n1_ : Aside0 (((((((w24.setCell ⟨gb144, 0, none⟩ (.int .i64 ((rd_T136 l0_4 x3_2).f0))).setCell ⟨gb144, 1, none⟩ (.int .i64 ((rd_T136 l0_4 x3_2).f1))).setCell ⟨gb144, 2, none⟩ (.bool ((rd_T136 l0_4 x3_2).f2))).setCell ⟨gb144, 3, none⟩ (.int .i64 ((rd_T136 l0_4 x3_2).f3.f0))).setCell ⟨gb144, 4, none⟩ (.int .i64 ((rd_T136 l0_4 x3_2).f3.f1))).setCell ⟨gb144, 5, none⟩ (.int .i64 ((rd_T136 l0_4 x3_2).f3.f2))).heap[gb144]? = some (.cells #[.int .i64 ((rd_T136 l0_4 x3_2).f0), .int .i64 ((rd_T136 l0_4 x3_2).f1), .bool ((rd_T136 l0_4 x3_2).f2), .int .i64 ((rd_T136 l0_4 x3_2).f3.f0), .int .i64 ((rd_T136 l0_4 x3_2).f3.f1), .int .i64 ((rd_T136 l0_4 x3_2).f3.f2)] 136 (0, 0))) := ⟨by (with_reducible repeat (first | refine blk_drewN ?_ _ | refine blk_drew ?_ | refine blk_alloc ?_ _)); refine blk_put (cs := #[.int .i64 ((rd_T136 l0_4 x3_2).f0), .int .i64 ((rd_T136 l0_4 x3_2).f1), .bool ((rd_T136 l0_4 x3_2).f2), .int .i64 ((rd_T136 l0_4 x3_2).f3.f0), .int .i64 ((rd_T136 l0_4 x3_2).f3.f1), .int .i64 0]) ?_ 5 _ rfl; (with_reducible repeat (first | refine blk_drewN ?_ _ | refine blk_drew ?_ | refine blk_alloc ?_ _)); refine blk_put (cs := #[.int .i64 ((rd_T136 l0_4 x3_2).f0), .int .i64 ((rd_T136 l0_4 x3_2).f1), .bool ((rd_T136 l0_4 x3_2).f2), .int .i64 ((rd_T136 l0_4 x3_2).f3.f0), .int .i64 0, .int .i64 0]) ?_ 4 _ rfl; (with_reducible repeat (first | refine blk_drewN ?_ _ | refine blk_drew ?_ | refine blk_alloc ?_ _)); refine blk_put (cs := #[.int .i64 ((rd_T136 l0_4 x3_2).f0), .int .i64 ((rd_T136 l0_4 x3_2).f1), .bool ((rd_T136 l0_4 x3_2).f2), .int .i64 0, .int .i64 0, .int .i64 0]) ?_ 3 _ rfl; (with_reducible repeat (first | refine blk_drewN ?_ _ | refine blk_drew ?_ | refine blk_alloc ?_ _)); refine blk_put (cs := #[.int .i64 ((rd_T136 l0_4 x3_2).f0), .int .i64 ((rd_T136 l0_4 x3_2).f1), .bool false, .int .i64 0, .int .i64 0, .int .i64 0]) ?_ 2 _ rfl; (with_reducible repeat (first | refine blk_drewN ?_ _ | refine blk_drew ?_ | refine blk_alloc ?_ _)); refine blk_put (cs := #[.int .i64 ((rd_T136 l0_4 x3_2).f0), .int .i64 0, .bool false, .int .i64 0, .int .i64 0, .int .i64 0]) ?_ 1 _ rfl; (with_reducible repeat (first | refine blk_drewN ?_ _ | refine blk_drew ?_ | refine blk_alloc ?_ _)); refine blk_put (cs := #[.int .i64 0, .int .i64 0, .bool false, .int .i64 0, .int .i64 0, .int .i64 0]) ?_ 0 _ rfl; (with_reducible repeat (first | refine blk_drewN ?_ _ | refine blk_drew ?_ | refine blk_alloc ?_ _)); exact BK144.out⟩
                          have n2_ : Aside0 (Below w.heap.size w ((((((w24.setCell ⟨gb144, 0, none⟩ (.int .i64 ((rd_T136 l0_4 x3_2).f0))).setCell ⟨gb144, 1, none⟩ (.int .i64 ((rd_T136 l0_4 x3_2).f1))).setCell ⟨gb144, 2, none⟩ (.bool ((rd_T136 l0_4 x3_2).f2))).setCell ⟨gb144, 3, none⟩ (.int .i64 ((rd_T136 l0_4 x3_2).f3.f0))).setCell ⟨gb144, 4, none⟩ (.int .i64 ((rd_T136 l0_4 x3_2).f3.f1))).setCell ⟨gb144, 5, none⟩ (.int .i64 ((rd_T136 l0_4 x3_2).f3.f2)))) := ⟨by repeat (first | (with_reducible first | exact HB.out | apply below_alloc | apply pw_below_drewN | apply below_drew1 | refine below_set ?_ GE140.out | refine below_set ?_ GE144.out) | exact HB.out)⟩
                          (try clear BK140)
                          (try clear BK144)
                          (try clear HB)
                          generalize ((((((w24.setCell ⟨gb144, 0, none⟩ (.int .i64 ((rd_T136 l0_4 x3_2).f0))).setCell ⟨gb144, 1, none⟩ (.int .i64 ((rd_T136 l0_4 x3_2).f1))).setCell ⟨gb144, 2, none⟩ (.bool ((rd_T136 l0_4 x3_2).f2))).setCell ⟨gb144, 3, none⟩ (.int .i64 ((rd_T136 l0_4 x3_2).f3.f0))).setCell ⟨gb144, 4, none⟩ (.int .i64 ((rd_T136 l0_4 x3_2).f3.f1))).setCell ⟨gb144, 5, none⟩ (.int .i64 ((rd_T136 l0_4 x3_2).f3.f2))) = w53 at n0_ n1_ n2_ ⊢
                          have BK140 := n0_
                          have BK144 := n1_
                          have HB := n2_
                          clear n0_ n1_ n2_
                          have n0_ := Aside0.mk (blk_drew BK140.out)
                          have n1_ := Aside0.mk (blk_drew BK144.out)
                          have n2_ := Aside0.mk (below_drew1 HB.out)
                          clear BK140
                          clear BK144
                          clear HB
                          have BK140 := n0_
                          have BK144 := n1_
                          have HB := n2_
                          clear n0_ n1_ n2_
                          refine start_ (n := 38) (S := fun w' => w'.cell? ⟨gb144, 0, none⟩ = some (.int .i64 ((rd_T136 l0_4 x3_2).f0)) ∧ w'.cell? ⟨gb144, 1, none⟩ = some (.int .i64 ((rd_T136 l0_4 x3_2).f1)) ∧ w'.cell? ⟨gb144, 2, none⟩ = some (.bool ((rd_T136 l0_4 x3_2).f2)) ∧ w'.cell? ⟨gb144, 3, none⟩ = some (.int .i64 ((rd_T136 l0_4 x3_2).f3.f0)) ∧ w'.cell? ⟨gb144, 4, none⟩ = some (.int .i64 ((rd_T136 l0_4 x3_2).f3.f1)) ∧ w'.cell? ⟨gb144, 5, none⟩ = some (.int .i64 ((rd_T136 l0_4 x3_2).f3.f2)) ∧ w'.cell? ⟨gb140, 0, none⟩ = some (.int .i64 a0_0) ∧ w'.cell? ⟨gb140, 1, none⟩ = some (.int .i64 a0_1) ∧ w'.cell? ⟨gb140, 2, none⟩ = some (.int .i64 a0_2) ∧ w'.cell? ⟨gb140, 3, none⟩ = some (.int .i64 a0_3) ∧ w'.cell? ⟨gb140, 4, none⟩ = some (.slice (some ad143) l0_4.length c0_4)) (ds := []) (bz 38 0) (by kernel_rfl) rfl (by kernel_rfl) ⟨(blk_cell BK144.out 0).trans rfl, (blk_cell BK144.out 1).trans rfl, (blk_cell BK144.out 2).trans rfl, (blk_cell BK144.out 3).trans rfl, (blk_cell BK144.out 4).trans rfl, (blk_cell BK144.out 5).trans rfl, (blk_cell BK140.out 0).trans rfl, (blk_cell BK140.out 1).trans rfl, (blk_cell BK140.out 2).trans rfl, (blk_cell BK140.out 3).trans rfl, (blk_cell BK140.out 4).trans rfl⟩ (fun hHeld => ?_); refine with_tabW spec_FairOk.tab7 spec_FairOk.bits7 (fun HT_ HW_ => ?_)
                          generalize w53.drew = w54 at BK140 BK144 HB hHeld ⊢
                          refine px_ (i := 0) (N := some 35) (bz 38 1) (any_of HT_.out (by kernel_rfl)) ?_
                          refine tx_ (i := 1) (N := some 36) (bz 38 3) rfl rfl (take_ofW HT_.out HW_.out (by kernel_rfl)) hHeld Z94 ?_
                          refine px_ (i := 2) (N := some 37) (bz 38 7) (any_of HT_.out (by kernel_rfl)) ?_
                          refine px_ (i := 3) (N := some 38) (bz 38 15) (any_of HT_.out (by kernel_rfl)) ?_
                          refine px_ (i := 4) (N := some 39) (bz 38 31) (any_of HT_.out (by kernel_rfl)) ?_
                          refine tx_ (i := 5) (N := some 40) (bz 38 63) rfl rfl (take_ofW HT_.out HW_.out (by kernel_rfl)) hHeld Z94 ?_
                          refine px_ (i := 6) (N := some 41) (bz 38 127) (any_of HT_.out (by kernel_rfl)) ?_
                          refine px_ (i := 7) (N := some 42) (bz 38 255) (any_of HT_.out (by kernel_rfl)) ?_
                          refine px_ (i := 8) (N := some 43) (bz 38 511) (any_of HT_.out (by kernel_rfl)) ?_
                          refine px_ (i := 9) (N := some 44) (bz 38 1023) (any_of HT_.out (by kernel_rfl)) ?_
                          refine px_ (i := 10) (N := some 45) (bz 38 2047) (any_of HT_.out (by kernel_rfl)) ?_
                          refine px_ (i := 11) (N := some 46) (bz 38 4095) (any_of HT_.out (by kernel_rfl)) ?_
                          refine ox_ (i := 12) (N := some 47) (bz 38 8191) (any_of HT_.out (by kernel_rfl)) ?_
                          refine ox_ (i := 13) (N := some 48) (bz 38 16383) (any_of HT_.out (by kernel_rfl)) ?_
                          refine ox_ (i := 14) (N := some 49) (bz 38 32767) (any_of HT_.out (by kernel_rfl)) ?_
                          refine ox_ (i := 15) (N := some 50) (bz 38 65535) (any_of HT_.out (by kernel_rfl)) ?_
                          refine ox_ (i := 16) (N := some 51) (bz 38 131071) (any_of HT_.out (by kernel_rfl)) ?_
                          refine ox_ (i := 17) (N := some 52) (bz 38 262143) (any_of HT_.out (by kernel_rfl)) ?_
                          refine ox_ (i := 18) (N := some 53) (bz 38 524287) (any_of HT_.out (by kernel_rfl)) ?_
                          refine ox_ (i := 19) (N := some 54) (bz 38 1048575) (any_of HT_.out (by kernel_rfl)) ?_
                          refine ox_ (i := 20) (N := some 55) (bz 38 2097151) (any_of HT_.out (by kernel_rfl)) ?_
                          refine ox_ (i := 21) (N := some 56) (bz 38 4194303) (any_of HT_.out (by kernel_rfl)) ?_
                          refine px_ (i := 22) (N := some 57) (bz 38 8388607) (any_of HT_.out (by kernel_rfl)) ?_
                          refine px_ (i := 23) (N := some 58) (bz 38 16777215) (any_of HT_.out (by kernel_rfl)) ?_
                          refine px_ (i := 24) (N := some 59) (bz 38 33554431) (any_of HT_.out (by kernel_rfl)) ?_
                          refine px_ (i := 25) (N := some 60) (bz 38 67108863) (any_of HT_.out (by kernel_rfl)) ?_
                          refine tx_ (i := 26) (N := some 61) (bz 38 134217727) rfl rfl (take_ofW HT_.out HW_.out (by kernel_rfl)) hHeld Z94 ?_
                          refine one_ (i := 27) (N := some 62) (bz 38 268435455) rfl rfl (one_of HT_.out (by kernel_rfl)) (by decide) (fun K hK => ?_)
                          refine goes_ Try.func61 (by kernel_rfl) rfl #[.int .i64 ((rd_T136 l0_4 x3_2).f1)] (by rfl) rfl rfl Z41 ?_
                          with_reducible refine (spec_Stride.calls ((rd_T136 l0_4 x3_2).f1) t148 _ A48.out).mono ?_
                          rintro e w' ⟨rfl, ⟨nd, rfl⟩⟩
                          refine ⟨_, rfl, ?_⟩
                          refine hK.out _ _ ⟨(blk_cell BK144.out 0).trans rfl, (blk_cell BK144.out 1).trans rfl, (blk_cell BK144.out 2).trans rfl, (blk_cell BK144.out 3).trans rfl, (blk_cell BK144.out 4).trans rfl, (blk_cell BK144.out 5).trans rfl, (blk_cell BK140.out 0).trans rfl, (blk_cell BK140.out 1).trans rfl, (blk_cell BK140.out 2).trans rfl, (blk_cell BK140.out 3).trans rfl, (blk_cell BK140.out 4).trans rfl⟩ (fun hHeld => ?_)
                          clear hK K
                          refine nx_ (N := some 62) ?_
                          refine px_ (i := 28) (N := some 63) (bz 38 536870911) (any_of HT_.out (by kernel_rfl)) ?_
                          refine px_ (i := 29) (N := some 64) (bz 38 1073741823) (any_of HT_.out (by kernel_rfl)) ?_
                          refine px_ (i := 30) (N := some 65) (bz 38 2147483647) (any_of HT_.out (by kernel_rfl)) ?_
                          refine px_ (i := 31) (N := some 66) (bz 38 4294967295) (any_of HT_.out (by kernel_rfl)) ?_
                          refine px_ (i := 33) (N := some 68) (bz 38 12884901887) (any_of HT_.out (by kernel_rfl)) ?_
                          refine tx_ (i := 32) (N := some 67) (bz 38 17179869183) rfl rfl (take_ofW HT_.out HW_.out (by kernel_rfl)) hHeld Z94 ?_
                          refine tx_ (i := 34) (N := some 69) (bz 38 34359738367) rfl rfl (take_ofW HT_.out HW_.out (by kernel_rfl)) hHeld Z94 ?_
                          refine one_ (i := 35) (N := some 70) (bz 38 68719476735) rfl rfl (one_of HT_.out (by kernel_rfl)) (by decide) (fun K hK => ?_)
                          refine goes_ Try.func151 (by kernel_rfl) rfl #[.agg #[.int .i64 ((rd_T136 l0_4 x3_2).f3.f0), .int .i64 ((rd_T136 l0_4 x3_2).f3.f1), .int .i64 ((rd_T136 l0_4 x3_2).f3.f2)], .int .i64 a0_0] (by rfl) rfl rfl Z41 ?_
                          with_reducible refine (spec_Narrow.calls ((rd_T136 l0_4 x3_2).f3.f0) ((rd_T136 l0_4 x3_2).f3.f1) ((rd_T136 l0_4 x3_2).f3.f2) a0_0 t149 _ A52.out).mono ?_
                          rintro e w55 ⟨rfl, hb⟩
                          refine ⟨_, rfl, ?_⟩
                          have n0_ := Aside0.mk (blk_below (g := gb140) (o := .cells #[.int .i64 a0_0, .int .i64 a0_1, .int .i64 a0_2, .int .i64 a0_3, .slice (some ad143) l0_4.length c0_4] 52 (0, 0)) Z59 hb)
                          have n1_ := Aside0.mk (blk_below (g := gb144) (o := .cells #[.int .i64 ((rd_T136 l0_4 x3_2).f0), .int .i64 ((rd_T136 l0_4 x3_2).f1), .bool ((rd_T136 l0_4 x3_2).f2), .int .i64 ((rd_T136 l0_4 x3_2).f3.f0), .int .i64 ((rd_T136 l0_4 x3_2).f3.f1), .int .i64 ((rd_T136 l0_4 x3_2).f3.f2)] 136 (0, 0)) Z60 hb)
                          have n2_ := Aside0.mk (below_step Z8 hb)
                          clear BK140
                          clear BK144
                          clear HB
                          have BK140 := n0_
                          have BK144 := n1_
                          have HB := n2_
                          clear n0_ n1_ n2_
                          (try clear hb)
                          (try clear hb2)
                          (try clear hk)
                          (try clear hi)
                          refine hK.out _ _ ⟨(blk_cell BK144.out 0).trans rfl, (blk_cell BK144.out 1).trans rfl, (blk_cell BK144.out 2).trans rfl, (blk_cell BK144.out 3).trans rfl, (blk_cell BK144.out 4).trans rfl, (blk_cell BK144.out 5).trans rfl, (blk_cell BK140.out 0).trans rfl, (blk_cell BK140.out 1).trans rfl, (blk_cell BK140.out 2).trans rfl, (blk_cell BK140.out 3).trans rfl, (blk_cell BK140.out 4).trans rfl⟩ (fun hHeld => ?_)
                          clear hK K
                          refine nx_ (N := some 70) ?_
                          refine px_ (i := 36) (N := some 71) (bz 38 137438953471) (any_of HT_.out (by kernel_rfl)) ?_
                          refine px_ (i := 37) (N := some 72) (bz 38 274877906943) (any_of HT_.out (by kernel_rfl)) ?_
                          refine done_ (done_of HT_.out (by kernel_rfl)) ?_
                          try go_wp2
                          go_meet
                          case rel => exact ⟨_, (!t149), Z98, H', ⟨by have := HJ1.out; have := HK2.out; first | omega | exact Nat.le_refl _⟩, ⟨by (with_reducible repeat (first | refine blk_drewN ?_ _ | refine blk_drew ?_ | refine blk_alloc ?_ _)); exact BK140.out⟩, ⟨by (with_reducible repeat (first | refine blk_drewN ?_ _ | refine blk_drew ?_ | refine blk_alloc ?_ _)); exact BK144.out⟩, ⟨by repeat (first | (with_reducible first | exact HB.out | apply below_alloc | apply pw_below_drewN | apply below_drew1 | refine below_set ?_ GE140.out | refine below_set ?_ GE144.out) | exact HB.out)⟩⟩
                case rest =>
                  clear HC22
                  try clear c1
                  try clear p1
                  try clear q1
                  try clear hx1
                  try clear p2
                  try clear c3
                  try clear c4
                  try clear c6
                  try clear p6
                  try clear p14
                  try clear q14
                  try clear hx14
                  try clear c15
                  try clear c30
                  try clear c30b0
                  try clear c33
                  try clear c33b0
                  try clear c35
                  try clear c35b0
                  try clear c36
                  try clear c36b0
                  try clear c37
                  try clear c37b0
                  try clear c41
                  try clear c41b0
                  try clear c41b1
                  try clear c49
                  try clear c49b0
                  try clear c49b1
                  try clear hx145_0
                  try clear hx145_1
                  try clear hx145_2
                  try clear hx145_3
                  try clear hx145_4
                  try clear hx145_5
                  try clear p145
                  try clear q145
                  obtain ⟨kq, x72_21, rfl, HA, HJ21, BK140, BK144, HB⟩ := hcut
                  cases kq with
                  | zero => exact absurd HA.out (by simp [spec_FairOk.j2])
                  | succ kj21 =>
                    have H := HA.out
                    clear HA
                    simp only [spec_FairOk.j2] at H
                    by_cases c56 : x72_21 = true
                    · subst c56
                      have H1 : (some false) = some r := by rw [if_pos rfl] at H; exact H
                      clear H
                      have H := H1
                      clear H1
                      obtain rfl := Option.some.inj H
                      go_wp2
                      go_ret
                      exact ⟨by first | rfl | (simp [errW_none, errW_some] <;> rfl) | (simp [*, errW_none, errW_some] <;> rfl), by repeat (first | (with_reducible first | exact HB.out | apply below_alloc | apply pw_below_drewN | apply below_drew1 | refine below_set ?_ GE140.out | refine below_set ?_ GE144.out) | exact HB.out)⟩
                    · replace c56 := Bool.eq_false_iff.mpr c56
                      subst c56
                      have H1 : ((spec_VecTop.f ((rd_T136 l0_4 x3_2).f3.f0) ((rd_T136 l0_4 x3_2).f3.f1) ((rd_T136 l0_4 x3_2).f3.f2)).bind fun t150 => ((spec_VecTop.f a0_1 a0_2 a0_3).bind fun t151 => ((spec_Stride.f ((rd_T136 l0_4 x3_2).f1)).bind fun t152 => (if t150 > (wrap64 (t151 + (wrap64 (t152 * 2000)))) then (some false) else (if ((rd_T136 l0_4 x3_2).f2) = true then ((spec_VecTop.f ((rd_T136 l0_4 x3_2).f3.f0) ((rd_T136 l0_4 x3_2).f3.f1) ((rd_T136 l0_4 x3_2).f3.f2)).bind fun t153 => ((spec_VecTop.f a0_1 a0_2 a0_3).bind fun t154 => (if t153 < t154 then (some false) else (spec_FairOk.l0 kj21 (wrap64 (x3_2 + 1)) a0_0 a0_1 a0_2 a0_3 l0_4)))) else (spec_FairOk.l0 kj21 (wrap64 (x3_2 + 1)) a0_0 a0_1 a0_2 a0_3 l0_4)))))) = some r := by rw [if_neg (show ¬ (false = true) by decide)] at H; exact H
                      clear H
                      have H := H1
                      clear H1
                      replace H := Option.bind_eq_some_iff.mp H
                      obtain ⟨t150, A570, H⟩ := H
                      replace H : ((spec_VecTop.f a0_1 a0_2 a0_3).bind fun t151 => ((spec_Stride.f ((rd_T136 l0_4 x3_2).f1)).bind fun t152 => (if t150 > (wrap64 (t151 + (wrap64 (t152 * 2000)))) then (some false) else (if ((rd_T136 l0_4 x3_2).f2) = true then ((spec_VecTop.f ((rd_T136 l0_4 x3_2).f3.f0) ((rd_T136 l0_4 x3_2).f3.f1) ((rd_T136 l0_4 x3_2).f3.f2)).bind fun t153 => ((spec_VecTop.f a0_1 a0_2 a0_3).bind fun t154 => (if t153 < t154 then (some false) else (spec_FairOk.l0 kj21 (wrap64 (x3_2 + 1)) a0_0 a0_1 a0_2 a0_3 l0_4)))) else (spec_FairOk.l0 kj21 (wrap64 (x3_2 + 1)) a0_0 a0_1 a0_2 a0_3 l0_4))))) = some r := H
                      have A57 := Aside0.mk A570
                      clear A570
                      replace H := Option.bind_eq_some_iff.mp H
                      obtain ⟨t151, A580, H⟩ := H
                      replace H : ((spec_Stride.f ((rd_T136 l0_4 x3_2).f1)).bind fun t152 => (if t150 > (wrap64 (t151 + (wrap64 (t152 * 2000)))) then (some false) else (if ((rd_T136 l0_4 x3_2).f2) = true then ((spec_VecTop.f ((rd_T136 l0_4 x3_2).f3.f0) ((rd_T136 l0_4 x3_2).f3.f1) ((rd_T136 l0_4 x3_2).f3.f2)).bind fun t153 => ((spec_VecTop.f a0_1 a0_2 a0_3).bind fun t154 => (if t153 < t154 then (some false) else (spec_FairOk.l0 kj21 (wrap64 (x3_2 + 1)) a0_0 a0_1 a0_2 a0_3 l0_4)))) else (spec_FairOk.l0 kj21 (wrap64 (x3_2 + 1)) a0_0 a0_1 a0_2 a0_3 l0_4)))) = some r := H
                      have A58 := Aside0.mk A580
                      clear A580
                      replace H := Option.bind_eq_some_iff.mp H
                      obtain ⟨t152, A590, H⟩ := H
                      replace H : (if t150 > (wrap64 (t151 + (wrap64 (t152 * 2000)))) then (some false) else (if ((rd_T136 l0_4 x3_2).f2) = true then ((spec_VecTop.f ((rd_T136 l0_4 x3_2).f3.f0) ((rd_T136 l0_4 x3_2).f3.f1) ((rd_T136 l0_4 x3_2).f3.f2)).bind fun t153 => ((spec_VecTop.f a0_1 a0_2 a0_3).bind fun t154 => (if t153 < t154 then (some false) else (spec_FairOk.l0 kj21 (wrap64 (x3_2 + 1)) a0_0 a0_1 a0_2 a0_3 l0_4)))) else (spec_FairOk.l0 kj21 (wrap64 (x3_2 + 1)) a0_0 a0_1 a0_2 a0_3 l0_4))) = some r := H
                      have A59 := Aside0.mk A590
                      clear A590
                      by_cases c60 : t150 > (wrap64 (t151 + (wrap64 (t152 * 2000))))
                      · rw [if_pos c60] at H
                        have c60b0 : decide ((wrap64 (t151 + (wrap64 (t152 * 2000)))) < t150) = true := decide_eq_true c60
                        clear c60
                        obtain rfl := Option.some.inj H
                        try go_wp2
                        have n0_ := Aside0.mk (blk_drew BK140.out)
                        have n1_ := Aside0.mk (blk_drew BK144.out)
                        have n2_ := Aside0.mk (below_drew1 HB.out)
                        clear BK140
                        clear BK144
                        clear HB
                        have BK140 := n0_
                        have BK144 := n1_
                        have HB := n2_
                        clear n0_ n1_ n2_
                        refine start_ (n := 25) (S := fun w' => w'.cell? ⟨gb144, 0, none⟩ = some (.int .i64 ((rd_T136 l0_4 x3_2).f0)) ∧ w'.cell? ⟨gb144, 1, none⟩ = some (.int .i64 ((rd_T136 l0_4 x3_2).f1)) ∧ w'.cell? ⟨gb144, 2, none⟩ = some (.bool ((rd_T136 l0_4 x3_2).f2)) ∧ w'.cell? ⟨gb144, 3, none⟩ = some (.int .i64 ((rd_T136 l0_4 x3_2).f3.f0)) ∧ w'.cell? ⟨gb144, 4, none⟩ = some (.int .i64 ((rd_T136 l0_4 x3_2).f3.f1)) ∧ w'.cell? ⟨gb144, 5, none⟩ = some (.int .i64 ((rd_T136 l0_4 x3_2).f3.f2)) ∧ w'.cell? ⟨gb140, 0, none⟩ = some (.int .i64 a0_0) ∧ w'.cell? ⟨gb140, 1, none⟩ = some (.int .i64 a0_1) ∧ w'.cell? ⟨gb140, 2, none⟩ = some (.int .i64 a0_2) ∧ w'.cell? ⟨gb140, 3, none⟩ = some (.int .i64 a0_3) ∧ w'.cell? ⟨gb140, 4, none⟩ = some (.slice (some ad143) l0_4.length c0_4)) (ds := []) (bz 25 0) (by kernel_rfl) rfl (by kernel_rfl) ⟨(blk_cell BK144.out 0).trans rfl, (blk_cell BK144.out 1).trans rfl, (blk_cell BK144.out 2).trans rfl, (blk_cell BK144.out 3).trans rfl, (blk_cell BK144.out 4).trans rfl, (blk_cell BK144.out 5).trans rfl, (blk_cell BK140.out 0).trans rfl, (blk_cell BK140.out 1).trans rfl, (blk_cell BK140.out 2).trans rfl, (blk_cell BK140.out 3).trans rfl, (blk_cell BK140.out 4).trans rfl⟩ (fun hHeld => ?_); refine with_tabW spec_FairOk.tab9 spec_FairOk.bits9 (fun HT_ HW_ => ?_)
                        generalize wc.drew = w61 at BK140 BK144 HB hHeld ⊢
                        refine px_ (i := 0) (N := some 73) (bz 25 1) (any_of HT_.out (by kernel_rfl)) ?_
                        refine px_ (i := 3) (N := some 76) (bz 25 9) (any_of HT_.out (by kernel_rfl)) ?_
                        refine px_ (i := 6) (N := some 79) (bz 25 73) (any_of HT_.out (by kernel_rfl)) ?_
                        refine tx_ (i := 1) (N := some 74) (bz 25 75) rfl rfl (take_ofW HT_.out HW_.out (by kernel_rfl)) hHeld Z94 ?_
                        refine tx_ (i := 4) (N := some 77) (bz 25 91) rfl rfl (take_ofW HT_.out HW_.out (by kernel_rfl)) hHeld Z94 ?_
                        refine tx_ (i := 7) (N := some 80) (bz 25 219) rfl rfl (take_ofW HT_.out HW_.out (by kernel_rfl)) hHeld Z94 ?_
                        refine one_ (i := 2) (N := some 75) (bz 25 223) rfl rfl (one_of HT_.out (by kernel_rfl)) (by decide) (fun K hK => ?_)
                        refine goes_ Try.func96 (by kernel_rfl) rfl #[.agg #[.int .i64 ((rd_T136 l0_4 x3_2).f3.f0), .int .i64 ((rd_T136 l0_4 x3_2).f3.f1), .int .i64 ((rd_T136 l0_4 x3_2).f3.f2)]] (by rfl) rfl rfl Z41 ?_
                        with_reducible refine (spec_VecTop.calls ((rd_T136 l0_4 x3_2).f3.f0) ((rd_T136 l0_4 x3_2).f3.f1) ((rd_T136 l0_4 x3_2).f3.f2) t150 _ A57.out).mono ?_
                        rintro e w62 ⟨rfl, hb⟩
                        refine ⟨_, rfl, ?_⟩
                        have n0_ := Aside0.mk (blk_below (g := gb140) (o := .cells #[.int .i64 a0_0, .int .i64 a0_1, .int .i64 a0_2, .int .i64 a0_3, .slice (some ad143) l0_4.length c0_4] 52 (0, 0)) Z59 hb)
                        have n1_ := Aside0.mk (blk_below (g := gb144) (o := .cells #[.int .i64 ((rd_T136 l0_4 x3_2).f0), .int .i64 ((rd_T136 l0_4 x3_2).f1), .bool ((rd_T136 l0_4 x3_2).f2), .int .i64 ((rd_T136 l0_4 x3_2).f3.f0), .int .i64 ((rd_T136 l0_4 x3_2).f3.f1), .int .i64 ((rd_T136 l0_4 x3_2).f3.f2)] 136 (0, 0)) Z60 hb)
                        have n2_ := Aside0.mk (below_step Z8 hb)
                        clear BK140
                        clear BK144
                        clear HB
                        have BK140 := n0_
                        have BK144 := n1_
                        have HB := n2_
                        clear n0_ n1_ n2_
                        (try clear hb)
                        (try clear hb2)
                        (try clear hk)
                        (try clear hi)
                        refine hK.out _ _ ⟨(blk_cell BK144.out 0).trans rfl, (blk_cell BK144.out 1).trans rfl, (blk_cell BK144.out 2).trans rfl, (blk_cell BK144.out 3).trans rfl, (blk_cell BK144.out 4).trans rfl, (blk_cell BK144.out 5).trans rfl, (blk_cell BK140.out 0).trans rfl, (blk_cell BK140.out 1).trans rfl, (blk_cell BK140.out 2).trans rfl, (blk_cell BK140.out 3).trans rfl, (blk_cell BK140.out 4).trans rfl⟩ (fun hHeld => ?_)
                        clear hK K
                        refine nx_ (N := some 75) ?_
                        refine one_ (i := 5) (N := some 78) (bz 25 255) rfl rfl (one_of HT_.out (by kernel_rfl)) (by decide) (fun K hK => ?_)
                        refine goes_ Try.func96 (by kernel_rfl) rfl #[.agg #[.int .i64 a0_1, .int .i64 a0_2, .int .i64 a0_3]] (by rfl) rfl rfl Z41 ?_
                        with_reducible refine (spec_VecTop.calls a0_1 a0_2 a0_3 t151 _ A58.out).mono ?_
                        rintro e w63 ⟨rfl, hb⟩
                        refine ⟨_, rfl, ?_⟩
                        have n0_ := Aside0.mk (blk_below (g := gb140) (o := .cells #[.int .i64 a0_0, .int .i64 a0_1, .int .i64 a0_2, .int .i64 a0_3, .slice (some ad143) l0_4.length c0_4] 52 (0, 0)) Z59 hb)
                        have n1_ := Aside0.mk (blk_below (g := gb144) (o := .cells #[.int .i64 ((rd_T136 l0_4 x3_2).f0), .int .i64 ((rd_T136 l0_4 x3_2).f1), .bool ((rd_T136 l0_4 x3_2).f2), .int .i64 ((rd_T136 l0_4 x3_2).f3.f0), .int .i64 ((rd_T136 l0_4 x3_2).f3.f1), .int .i64 ((rd_T136 l0_4 x3_2).f3.f2)] 136 (0, 0)) Z60 hb)
                        have n2_ := Aside0.mk (below_step Z8 hb)
                        clear BK140
                        clear BK144
                        clear HB
                        have BK140 := n0_
                        have BK144 := n1_
                        have HB := n2_
                        clear n0_ n1_ n2_
                        (try clear hb)
                        (try clear hb2)
                        (try clear hk)
                        (try clear hi)
                        refine hK.out _ _ ⟨(blk_cell BK144.out 0).trans rfl, (blk_cell BK144.out 1).trans rfl, (blk_cell BK144.out 2).trans rfl, (blk_cell BK144.out 3).trans rfl, (blk_cell BK144.out 4).trans rfl, (blk_cell BK144.out 5).trans rfl, (blk_cell BK140.out 0).trans rfl, (blk_cell BK140.out 1).trans rfl, (blk_cell BK140.out 2).trans rfl, (blk_cell BK140.out 3).trans rfl, (blk_cell BK140.out 4).trans rfl⟩ (fun hHeld => ?_)
                        clear hK K
                        refine nx_ (N := some 78) ?_
                        refine one_ (i := 8) (N := some 81) (bz 25 511) rfl rfl (one_of HT_.out (by kernel_rfl)) (by decide) (fun K hK => ?_)
                        refine goes_ Try.func61 (by kernel_rfl) rfl #[.int .i64 ((rd_T136 l0_4 x3_2).f1)] (by rfl) rfl rfl Z41 ?_
                        with_reducible refine (spec_Stride.calls ((rd_T136 l0_4 x3_2).f1) t152 _ A59.out).mono ?_
                        rintro e w' ⟨rfl, ⟨nd, rfl⟩⟩
                        refine ⟨_, rfl, ?_⟩
                        refine hK.out _ _ ⟨(blk_cell BK144.out 0).trans rfl, (blk_cell BK144.out 1).trans rfl, (blk_cell BK144.out 2).trans rfl, (blk_cell BK144.out 3).trans rfl, (blk_cell BK144.out 4).trans rfl, (blk_cell BK144.out 5).trans rfl, (blk_cell BK140.out 0).trans rfl, (blk_cell BK140.out 1).trans rfl, (blk_cell BK140.out 2).trans rfl, (blk_cell BK140.out 3).trans rfl, (blk_cell BK140.out 4).trans rfl⟩ (fun hHeld => ?_)
                        clear hK K
                        refine nx_ (N := some 81) ?_
                        refine px_ (i := 9) (N := some 82) (bz 25 1023) (any_of HT_.out (by kernel_rfl)) ?_
                        refine px_ (i := 10) (N := some 83) (bz 25 2047) (any_of HT_.out (by kernel_rfl)) ?_
                        refine px_ (i := 11) (N := some 84) (bz 25 4095) (any_of HT_.out (by kernel_rfl)) ?_
                        refine px_ (i := 12) (N := some 85) (bz 25 8191) (any_of HT_.out (by kernel_rfl)) ?_
                        refine ox_ (i := 13) (N := some 86) (bz 25 16383) (any_of HT_.out (by kernel_rfl)) ?_
                        refine ox_ (i := 14) (N := some 87) (bz 25 32767) (any_of HT_.out (by kernel_rfl)) ?_
                        refine ox_ (i := 15) (N := some 88) (bz 25 65535) (any_of HT_.out (by kernel_rfl)) ?_
                        refine ox_ (i := 16) (N := some 89) (bz 25 131071) (any_of HT_.out (by kernel_rfl)) ?_
                        refine ox_ (i := 17) (N := some 90) (bz 25 262143) (any_of HT_.out (by kernel_rfl)) ?_
                        refine ox_ (i := 18) (N := some 91) (bz 25 524287) (any_of HT_.out (by kernel_rfl)) ?_
                        refine ox_ (i := 19) (N := some 92) (bz 25 1048575) (any_of HT_.out (by kernel_rfl)) ?_
                        refine ox_ (i := 20) (N := some 93) (bz 25 2097151) (any_of HT_.out (by kernel_rfl)) ?_
                        refine ox_ (i := 21) (N := some 94) (bz 25 4194303) (any_of HT_.out (by kernel_rfl)) ?_
                        refine ox_ (i := 22) (N := some 95) (bz 25 8388607) (any_of HT_.out (by kernel_rfl)) ?_
                        refine ox_ (i := 23) (N := some 96) (bz 25 16777215) (any_of HT_.out (by kernel_rfl)) ?_
                        refine px_ (i := 24) (N := some 97) (bz 25 33554431) (any_of HT_.out (by kernel_rfl)) ?_
                        refine done_ (done_of HT_.out (by kernel_rfl)) ?_
                        try go_wp2
                        go_ret
                        exact ⟨by first | rfl | (simp [errW_none, errW_some] <;> rfl) | (simp [*, errW_none, errW_some] <;> rfl), by repeat (first | (with_reducible first | exact HB.out | apply below_alloc | apply pw_below_drewN | apply below_drew1 | refine below_set ?_ GE140.out | refine below_set ?_ GE144.out) | exact HB.out)⟩
                      · rw [if_neg c60] at H
                        have c60b0 : decide ((wrap64 (t151 + (wrap64 (t152 * 2000)))) < t150) = false := decide_eq_false c60
                        clear c60
                        by_cases c64 : ((rd_T136 l0_4 x3_2).f2) = true
                        · rw [if_pos c64] at H
                          have c64b0 : ((rd_T136 l0_4 x3_2).f2) = true := c64
                          clear c64
                          replace H := Option.bind_eq_some_iff.mp H
                          obtain ⟨t153, A650, H⟩ := H
                          replace H : ((spec_VecTop.f a0_1 a0_2 a0_3).bind fun t154 => (if t153 < t154 then (some false) else (spec_FairOk.l0 kj21 (wrap64 (x3_2 + 1)) a0_0 a0_1 a0_2 a0_3 l0_4))) = some r := H
                          have A65 := Aside0.mk A650
                          clear A650
                          replace H := Option.bind_eq_some_iff.mp H
                          obtain ⟨t154, A660, H⟩ := H
                          replace H : (if t153 < t154 then (some false) else (spec_FairOk.l0 kj21 (wrap64 (x3_2 + 1)) a0_0 a0_1 a0_2 a0_3 l0_4)) = some r := H
                          have A66 := Aside0.mk A660
                          clear A660
                          have HU67 := Aside0.mk H
                          clear H
                          try go_wp2
                          have n0_ := Aside0.mk (blk_drew BK140.out)
                          have n1_ := Aside0.mk (blk_drew BK144.out)
                          have n2_ := Aside0.mk (below_drew1 HB.out)
                          clear BK140
                          clear BK144
                          clear HB
                          have BK140 := n0_
                          have BK144 := n1_
                          have HB := n2_
                          clear n0_ n1_ n2_
                          refine start_ (n := 25) (S := fun w' => w'.cell? ⟨gb144, 0, none⟩ = some (.int .i64 ((rd_T136 l0_4 x3_2).f0)) ∧ w'.cell? ⟨gb144, 1, none⟩ = some (.int .i64 ((rd_T136 l0_4 x3_2).f1)) ∧ w'.cell? ⟨gb144, 2, none⟩ = some (.bool ((rd_T136 l0_4 x3_2).f2)) ∧ w'.cell? ⟨gb144, 3, none⟩ = some (.int .i64 ((rd_T136 l0_4 x3_2).f3.f0)) ∧ w'.cell? ⟨gb144, 4, none⟩ = some (.int .i64 ((rd_T136 l0_4 x3_2).f3.f1)) ∧ w'.cell? ⟨gb144, 5, none⟩ = some (.int .i64 ((rd_T136 l0_4 x3_2).f3.f2)) ∧ w'.cell? ⟨gb140, 0, none⟩ = some (.int .i64 a0_0) ∧ w'.cell? ⟨gb140, 1, none⟩ = some (.int .i64 a0_1) ∧ w'.cell? ⟨gb140, 2, none⟩ = some (.int .i64 a0_2) ∧ w'.cell? ⟨gb140, 3, none⟩ = some (.int .i64 a0_3) ∧ w'.cell? ⟨gb140, 4, none⟩ = some (.slice (some ad143) l0_4.length c0_4)) (ds := []) (bz 25 0) (by kernel_rfl) rfl (by kernel_rfl) ⟨(blk_cell BK144.out 0).trans rfl, (blk_cell BK144.out 1).trans rfl, (blk_cell BK144.out 2).trans rfl, (blk_cell BK144.out 3).trans rfl, (blk_cell BK144.out 4).trans rfl, (blk_cell BK144.out 5).trans rfl, (blk_cell BK140.out 0).trans rfl, (blk_cell BK140.out 1).trans rfl, (blk_cell BK140.out 2).trans rfl, (blk_cell BK140.out 3).trans rfl, (blk_cell BK140.out 4).trans rfl⟩ (fun hHeld => ?_); refine with_tabW spec_FairOk.tab9 spec_FairOk.bits9 (fun HT_ HW_ => ?_)
                          generalize wc.drew = w68 at BK140 BK144 HB hHeld ⊢
                          refine px_ (i := 0) (N := some 73) (bz 25 1) (any_of HT_.out (by kernel_rfl)) ?_
                          refine px_ (i := 3) (N := some 76) (bz 25 9) (any_of HT_.out (by kernel_rfl)) ?_
                          refine px_ (i := 6) (N := some 79) (bz 25 73) (any_of HT_.out (by kernel_rfl)) ?_
                          refine tx_ (i := 1) (N := some 74) (bz 25 75) rfl rfl (take_ofW HT_.out HW_.out (by kernel_rfl)) hHeld Z94 ?_
                          refine tx_ (i := 4) (N := some 77) (bz 25 91) rfl rfl (take_ofW HT_.out HW_.out (by kernel_rfl)) hHeld Z94 ?_
                          refine tx_ (i := 7) (N := some 80) (bz 25 219) rfl rfl (take_ofW HT_.out HW_.out (by kernel_rfl)) hHeld Z94 ?_
                          refine one_ (i := 2) (N := some 75) (bz 25 223) rfl rfl (one_of HT_.out (by kernel_rfl)) (by decide) (fun K hK => ?_)
                          refine goes_ Try.func96 (by kernel_rfl) rfl #[.agg #[.int .i64 ((rd_T136 l0_4 x3_2).f3.f0), .int .i64 ((rd_T136 l0_4 x3_2).f3.f1), .int .i64 ((rd_T136 l0_4 x3_2).f3.f2)]] (by rfl) rfl rfl Z41 ?_
                          with_reducible refine (spec_VecTop.calls ((rd_T136 l0_4 x3_2).f3.f0) ((rd_T136 l0_4 x3_2).f3.f1) ((rd_T136 l0_4 x3_2).f3.f2) t150 _ A57.out).mono ?_
                          rintro e w69 ⟨rfl, hb⟩
                          refine ⟨_, rfl, ?_⟩
                          have n0_ := Aside0.mk (blk_below (g := gb140) (o := .cells #[.int .i64 a0_0, .int .i64 a0_1, .int .i64 a0_2, .int .i64 a0_3, .slice (some ad143) l0_4.length c0_4] 52 (0, 0)) Z59 hb)
                          have n1_ := Aside0.mk (blk_below (g := gb144) (o := .cells #[.int .i64 ((rd_T136 l0_4 x3_2).f0), .int .i64 ((rd_T136 l0_4 x3_2).f1), .bool ((rd_T136 l0_4 x3_2).f2), .int .i64 ((rd_T136 l0_4 x3_2).f3.f0), .int .i64 ((rd_T136 l0_4 x3_2).f3.f1), .int .i64 ((rd_T136 l0_4 x3_2).f3.f2)] 136 (0, 0)) Z60 hb)
                          have n2_ := Aside0.mk (below_step Z8 hb)
                          clear BK140
                          clear BK144
                          clear HB
                          have BK140 := n0_
                          have BK144 := n1_
                          have HB := n2_
                          clear n0_ n1_ n2_
                          (try clear hb)
                          (try clear hb2)
                          (try clear hk)
                          (try clear hi)
                          refine hK.out _ _ ⟨(blk_cell BK144.out 0).trans rfl, (blk_cell BK144.out 1).trans rfl, (blk_cell BK144.out 2).trans rfl, (blk_cell BK144.out 3).trans rfl, (blk_cell BK144.out 4).trans rfl, (blk_cell BK144.out 5).trans rfl, (blk_cell BK140.out 0).trans rfl, (blk_cell BK140.out 1).trans rfl, (blk_cell BK140.out 2).trans rfl, (blk_cell BK140.out 3).trans rfl, (blk_cell BK140.out 4).trans rfl⟩ (fun hHeld => ?_)
                          clear hK K
                          refine nx_ (N := some 75) ?_
                          refine one_ (i := 5) (N := some 78) (bz 25 255) rfl rfl (one_of HT_.out (by kernel_rfl)) (by decide) (fun K hK => ?_)
                          refine goes_ Try.func96 (by kernel_rfl) rfl #[.agg #[.int .i64 a0_1, .int .i64 a0_2, .int .i64 a0_3]] (by rfl) rfl rfl Z41 ?_
                          with_reducible refine (spec_VecTop.calls a0_1 a0_2 a0_3 t151 _ A58.out).mono ?_
                          rintro e w70 ⟨rfl, hb⟩
                          refine ⟨_, rfl, ?_⟩
                          have n0_ := Aside0.mk (blk_below (g := gb140) (o := .cells #[.int .i64 a0_0, .int .i64 a0_1, .int .i64 a0_2, .int .i64 a0_3, .slice (some ad143) l0_4.length c0_4] 52 (0, 0)) Z59 hb)
                          have n1_ := Aside0.mk (blk_below (g := gb144) (o := .cells #[.int .i64 ((rd_T136 l0_4 x3_2).f0), .int .i64 ((rd_T136 l0_4 x3_2).f1), .bool ((rd_T136 l0_4 x3_2).f2), .int .i64 ((rd_T136 l0_4 x3_2).f3.f0), .int .i64 ((rd_T136 l0_4 x3_2).f3.f1), .int .i64 ((rd_T136 l0_4 x3_2).f3.f2)] 136 (0, 0)) Z60 hb)
                          have n2_ := Aside0.mk (below_step Z8 hb)
                          clear BK140
                          clear BK144
                          clear HB
                          have BK140 := n0_
                          have BK144 := n1_
                          have HB := n2_
                          clear n0_ n1_ n2_
                          (try clear hb)
                          (try clear hb2)
                          (try clear hk)
                          (try clear hi)
                          refine hK.out _ _ ⟨(blk_cell BK144.out 0).trans rfl, (blk_cell BK144.out 1).trans rfl, (blk_cell BK144.out 2).trans rfl, (blk_cell BK144.out 3).trans rfl, (blk_cell BK144.out 4).trans rfl, (blk_cell BK144.out 5).trans rfl, (blk_cell BK140.out 0).trans rfl, (blk_cell BK140.out 1).trans rfl, (blk_cell BK140.out 2).trans rfl, (blk_cell BK140.out 3).trans rfl, (blk_cell BK140.out 4).trans rfl⟩ (fun hHeld => ?_)
                          clear hK K
                          refine nx_ (N := some 78) ?_
                          refine one_ (i := 8) (N := some 81) (bz 25 511) rfl rfl (one_of HT_.out (by kernel_rfl)) (by decide) (fun K hK => ?_)
                          refine goes_ Try.func61 (by kernel_rfl) rfl #[.int .i64 ((rd_T136 l0_4 x3_2).f1)] (by rfl) rfl rfl Z41 ?_
                          with_reducible refine (spec_Stride.calls ((rd_T136 l0_4 x3_2).f1) t152 _ A59.out).mono ?_
                          rintro e w' ⟨rfl, ⟨nd, rfl⟩⟩
                          refine ⟨_, rfl, ?_⟩
                          refine hK.out _ _ ⟨(blk_cell BK144.out 0).trans rfl, (blk_cell BK144.out 1).trans rfl, (blk_cell BK144.out 2).trans rfl, (blk_cell BK144.out 3).trans rfl, (blk_cell BK144.out 4).trans rfl, (blk_cell BK144.out 5).trans rfl, (blk_cell BK140.out 0).trans rfl, (blk_cell BK140.out 1).trans rfl, (blk_cell BK140.out 2).trans rfl, (blk_cell BK140.out 3).trans rfl, (blk_cell BK140.out 4).trans rfl⟩ (fun hHeld => ?_)
                          clear hK K
                          refine nx_ (N := some 81) ?_
                          refine px_ (i := 9) (N := some 82) (bz 25 1023) (any_of HT_.out (by kernel_rfl)) ?_
                          refine px_ (i := 10) (N := some 83) (bz 25 2047) (any_of HT_.out (by kernel_rfl)) ?_
                          refine px_ (i := 11) (N := some 84) (bz 25 4095) (any_of HT_.out (by kernel_rfl)) ?_
                          refine px_ (i := 12) (N := some 85) (bz 25 8191) (any_of HT_.out (by kernel_rfl)) ?_
                          refine px_ (i := 13) (N := some 86) (bz 25 16383) (any_of HT_.out (by kernel_rfl)) ?_
                          refine tx_ (i := 14) (N := some 87) (bz 25 32767) rfl rfl (take_ofW HT_.out HW_.out (by kernel_rfl)) hHeld Z94 ?_
                          refine px_ (i := 15) (N := some 88) (bz 25 65535) (any_of HT_.out (by kernel_rfl)) ?_
                          refine px_ (i := 16) (N := some 89) (bz 25 131071) (any_of HT_.out (by kernel_rfl)) ?_
                          refine px_ (i := 19) (N := some 92) (bz 25 655359) (any_of HT_.out (by kernel_rfl)) ?_
                          refine tx_ (i := 17) (N := some 90) (bz 25 786431) rfl rfl (take_ofW HT_.out HW_.out (by kernel_rfl)) hHeld Z94 ?_
                          refine tx_ (i := 20) (N := some 93) (bz 25 1835007) rfl rfl (take_ofW HT_.out HW_.out (by kernel_rfl)) hHeld Z94 ?_
                          refine one_ (i := 18) (N := some 91) (bz 25 2097151) rfl rfl (one_of HT_.out (by kernel_rfl)) (by decide) (fun K hK => ?_)
                          refine goes_ Try.func96 (by kernel_rfl) rfl #[.agg #[.int .i64 ((rd_T136 l0_4 x3_2).f3.f0), .int .i64 ((rd_T136 l0_4 x3_2).f3.f1), .int .i64 ((rd_T136 l0_4 x3_2).f3.f2)]] (by rfl) rfl rfl Z41 ?_
                          with_reducible refine (spec_VecTop.calls ((rd_T136 l0_4 x3_2).f3.f0) ((rd_T136 l0_4 x3_2).f3.f1) ((rd_T136 l0_4 x3_2).f3.f2) t153 _ A65.out).mono ?_
                          rintro e w71 ⟨rfl, hb⟩
                          refine ⟨_, rfl, ?_⟩
                          have n0_ := Aside0.mk (blk_below (g := gb140) (o := .cells #[.int .i64 a0_0, .int .i64 a0_1, .int .i64 a0_2, .int .i64 a0_3, .slice (some ad143) l0_4.length c0_4] 52 (0, 0)) Z59 hb)
                          have n1_ := Aside0.mk (blk_below (g := gb144) (o := .cells #[.int .i64 ((rd_T136 l0_4 x3_2).f0), .int .i64 ((rd_T136 l0_4 x3_2).f1), .bool ((rd_T136 l0_4 x3_2).f2), .int .i64 ((rd_T136 l0_4 x3_2).f3.f0), .int .i64 ((rd_T136 l0_4 x3_2).f3.f1), .int .i64 ((rd_T136 l0_4 x3_2).f3.f2)] 136 (0, 0)) Z60 hb)
                          have n2_ := Aside0.mk (below_step Z8 hb)
                          clear BK140
                          clear BK144
                          clear HB
                          have BK140 := n0_
                          have BK144 := n1_
                          have HB := n2_
                          clear n0_ n1_ n2_
                          (try clear hb)
                          (try clear hb2)
                          (try clear hk)
                          (try clear hi)
                          refine hK.out _ _ ⟨(blk_cell BK144.out 0).trans rfl, (blk_cell BK144.out 1).trans rfl, (blk_cell BK144.out 2).trans rfl, (blk_cell BK144.out 3).trans rfl, (blk_cell BK144.out 4).trans rfl, (blk_cell BK144.out 5).trans rfl, (blk_cell BK140.out 0).trans rfl, (blk_cell BK140.out 1).trans rfl, (blk_cell BK140.out 2).trans rfl, (blk_cell BK140.out 3).trans rfl, (blk_cell BK140.out 4).trans rfl⟩ (fun hHeld => ?_)
                          clear hK K
                          refine nx_ (N := some 91) ?_
                          refine one_ (i := 21) (N := some 94) (bz 25 4194303) rfl rfl (one_of HT_.out (by kernel_rfl)) (by decide) (fun K hK => ?_)
                          refine goes_ Try.func96 (by kernel_rfl) rfl #[.agg #[.int .i64 a0_1, .int .i64 a0_2, .int .i64 a0_3]] (by rfl) rfl rfl Z41 ?_
                          with_reducible refine (spec_VecTop.calls a0_1 a0_2 a0_3 t154 _ A66.out).mono ?_
                          rintro e w72 ⟨rfl, hb⟩
                          refine ⟨_, rfl, ?_⟩
                          have n0_ := Aside0.mk (blk_below (g := gb140) (o := .cells #[.int .i64 a0_0, .int .i64 a0_1, .int .i64 a0_2, .int .i64 a0_3, .slice (some ad143) l0_4.length c0_4] 52 (0, 0)) Z59 hb)
                          have n1_ := Aside0.mk (blk_below (g := gb144) (o := .cells #[.int .i64 ((rd_T136 l0_4 x3_2).f0), .int .i64 ((rd_T136 l0_4 x3_2).f1), .bool ((rd_T136 l0_4 x3_2).f2), .int .i64 ((rd_T136 l0_4 x3_2).f3.f0), .int .i64 ((rd_T136 l0_4 x3_2).f3.f1), .int .i64 ((rd_T136 l0_4 x3_2).f3.f2)] 136 (0, 0)) Z60 hb)
                          have n2_ := Aside0.mk (below_step Z8 hb)
                          clear BK140
                          clear BK144
                          clear HB
                          have BK140 := n0_
                          have BK144 := n1_
                          have HB := n2_
                          clear n0_ n1_ n2_
                          (try clear hb)
                          (try clear hb2)
                          (try clear hk)
                          (try clear hi)
                          refine hK.out _ _ ⟨(blk_cell BK144.out 0).trans rfl, (blk_cell BK144.out 1).trans rfl, (blk_cell BK144.out 2).trans rfl, (blk_cell BK144.out 3).trans rfl, (blk_cell BK144.out 4).trans rfl, (blk_cell BK144.out 5).trans rfl, (blk_cell BK140.out 0).trans rfl, (blk_cell BK140.out 1).trans rfl, (blk_cell BK140.out 2).trans rfl, (blk_cell BK140.out 3).trans rfl, (blk_cell BK140.out 4).trans rfl⟩ (fun hHeld => ?_)
                          clear hK K
                          refine nx_ (N := some 94) ?_
                          refine px_ (i := 22) (N := some 95) (bz 25 8388607) (any_of HT_.out (by kernel_rfl)) ?_
                          refine px_ (i := 23) (N := some 96) (bz 25 16777215) (any_of HT_.out (by kernel_rfl)) ?_
                          refine px_ (i := 24) (N := some 97) (bz 25 33554431) (any_of HT_.out (by kernel_rfl)) ?_
                          refine done_ (done_of HT_.out (by kernel_rfl)) ?_
                          go_upto_if 97 with (fail)
                          have H := HU67.out
                          clear HU67
                          by_cases c73 : t153 < t154
                          · rw [if_pos c73] at H
                            have c73b0 : decide (t153 < t154) = true := decide_eq_true c73
                            clear c73
                            (first | rw [c73b0] | (simp only [i64_w, i32_w]; rw [c73b0]) | (have cz_ := c73b0; simp only [bne, gt_iff_lt, Int.natCast_pos] at cz_; first | rw [cz_] | (simp only [i64_w, i32_w]; rw [cz_])) | skip)
                            obtain rfl := Option.some.inj H
                            go_wp2
                            go_ret
                            exact ⟨by first | rfl | (simp [errW_none, errW_some] <;> rfl) | (simp [*, errW_none, errW_some] <;> rfl), by repeat (first | (with_reducible first | exact HB.out | apply below_alloc | apply pw_below_drewN | apply below_drew1 | refine below_set ?_ GE140.out | refine below_set ?_ GE144.out) | exact HB.out)⟩
                          · rw [if_neg c73] at H
                            have c73b0 : decide (t153 < t154) = false := decide_eq_false c73
                            clear c73
                            (first | rw [c73b0] | (simp only [i64_w, i32_w]; rw [c73b0]) | (have cz_ := c73b0; simp only [bne, gt_iff_lt, Int.natCast_pos] at cz_; first | rw [cz_] | (simp only [i64_w, i32_w]; rw [cz_])) | skip)
                            have H' := Aside0.mk H
                            clear H
                            go_wp2
                            go_roundg kj21
                            case measure => have := HJ1.out; have := HK2.out; have := HJ21.out; omega
                            case rel => exact ⟨(wrap64 (x3_2 + 1)), Z98, H', ⟨by have := HJ1.out; have := HK2.out; have := HJ21.out; omega⟩, ⟨by (with_reducible repeat (first | refine blk_drewN ?_ _ | refine blk_drew ?_ | refine blk_alloc ?_ _)); exact BK140.out⟩, ⟨by repeat (first | (with_reducible first | exact HB.out | apply below_alloc | apply pw_below_drewN | apply below_drew1 | refine below_set ?_ GE140.out | refine below_set ?_ GE144.out) | exact HB.out)⟩⟩
                        · rw [if_neg c64] at H
                          have c64b0 : ((rd_T136 l0_4 x3_2).f2) = false := by simpa using c64
                          clear c64
                          have H' := Aside0.mk H
                          clear H
                          try go_wp2
                          have n0_ := Aside0.mk (blk_drew BK140.out)
                          have n1_ := Aside0.mk (blk_drew BK144.out)
                          have n2_ := Aside0.mk (below_drew1 HB.out)
                          clear BK140
                          clear BK144
                          clear HB
                          have BK140 := n0_
                          have BK144 := n1_
                          have HB := n2_
                          clear n0_ n1_ n2_
                          refine start_ (n := 25) (S := fun w' => w'.cell? ⟨gb144, 0, none⟩ = some (.int .i64 ((rd_T136 l0_4 x3_2).f0)) ∧ w'.cell? ⟨gb144, 1, none⟩ = some (.int .i64 ((rd_T136 l0_4 x3_2).f1)) ∧ w'.cell? ⟨gb144, 2, none⟩ = some (.bool ((rd_T136 l0_4 x3_2).f2)) ∧ w'.cell? ⟨gb144, 3, none⟩ = some (.int .i64 ((rd_T136 l0_4 x3_2).f3.f0)) ∧ w'.cell? ⟨gb144, 4, none⟩ = some (.int .i64 ((rd_T136 l0_4 x3_2).f3.f1)) ∧ w'.cell? ⟨gb144, 5, none⟩ = some (.int .i64 ((rd_T136 l0_4 x3_2).f3.f2)) ∧ w'.cell? ⟨gb140, 0, none⟩ = some (.int .i64 a0_0) ∧ w'.cell? ⟨gb140, 1, none⟩ = some (.int .i64 a0_1) ∧ w'.cell? ⟨gb140, 2, none⟩ = some (.int .i64 a0_2) ∧ w'.cell? ⟨gb140, 3, none⟩ = some (.int .i64 a0_3) ∧ w'.cell? ⟨gb140, 4, none⟩ = some (.slice (some ad143) l0_4.length c0_4)) (ds := []) (bz 25 0) (by kernel_rfl) rfl (by kernel_rfl) ⟨(blk_cell BK144.out 0).trans rfl, (blk_cell BK144.out 1).trans rfl, (blk_cell BK144.out 2).trans rfl, (blk_cell BK144.out 3).trans rfl, (blk_cell BK144.out 4).trans rfl, (blk_cell BK144.out 5).trans rfl, (blk_cell BK140.out 0).trans rfl, (blk_cell BK140.out 1).trans rfl, (blk_cell BK140.out 2).trans rfl, (blk_cell BK140.out 3).trans rfl, (blk_cell BK140.out 4).trans rfl⟩ (fun hHeld => ?_); refine with_tabW spec_FairOk.tab9 spec_FairOk.bits9 (fun HT_ HW_ => ?_)
                          generalize wc.drew = w74 at BK140 BK144 HB hHeld ⊢
                          refine px_ (i := 0) (N := some 73) (bz 25 1) (any_of HT_.out (by kernel_rfl)) ?_
                          refine px_ (i := 3) (N := some 76) (bz 25 9) (any_of HT_.out (by kernel_rfl)) ?_
                          refine px_ (i := 6) (N := some 79) (bz 25 73) (any_of HT_.out (by kernel_rfl)) ?_
                          refine tx_ (i := 1) (N := some 74) (bz 25 75) rfl rfl (take_ofW HT_.out HW_.out (by kernel_rfl)) hHeld Z94 ?_
                          refine tx_ (i := 4) (N := some 77) (bz 25 91) rfl rfl (take_ofW HT_.out HW_.out (by kernel_rfl)) hHeld Z94 ?_
                          refine tx_ (i := 7) (N := some 80) (bz 25 219) rfl rfl (take_ofW HT_.out HW_.out (by kernel_rfl)) hHeld Z94 ?_
                          refine one_ (i := 2) (N := some 75) (bz 25 223) rfl rfl (one_of HT_.out (by kernel_rfl)) (by decide) (fun K hK => ?_)
                          refine goes_ Try.func96 (by kernel_rfl) rfl #[.agg #[.int .i64 ((rd_T136 l0_4 x3_2).f3.f0), .int .i64 ((rd_T136 l0_4 x3_2).f3.f1), .int .i64 ((rd_T136 l0_4 x3_2).f3.f2)]] (by rfl) rfl rfl Z41 ?_
                          with_reducible refine (spec_VecTop.calls ((rd_T136 l0_4 x3_2).f3.f0) ((rd_T136 l0_4 x3_2).f3.f1) ((rd_T136 l0_4 x3_2).f3.f2) t150 _ A57.out).mono ?_
                          rintro e w75 ⟨rfl, hb⟩
                          refine ⟨_, rfl, ?_⟩
                          have n0_ := Aside0.mk (blk_below (g := gb140) (o := .cells #[.int .i64 a0_0, .int .i64 a0_1, .int .i64 a0_2, .int .i64 a0_3, .slice (some ad143) l0_4.length c0_4] 52 (0, 0)) Z59 hb)
                          have n1_ := Aside0.mk (blk_below (g := gb144) (o := .cells #[.int .i64 ((rd_T136 l0_4 x3_2).f0), .int .i64 ((rd_T136 l0_4 x3_2).f1), .bool ((rd_T136 l0_4 x3_2).f2), .int .i64 ((rd_T136 l0_4 x3_2).f3.f0), .int .i64 ((rd_T136 l0_4 x3_2).f3.f1), .int .i64 ((rd_T136 l0_4 x3_2).f3.f2)] 136 (0, 0)) Z60 hb)
                          have n2_ := Aside0.mk (below_step Z8 hb)
                          clear BK140
                          clear BK144
                          clear HB
                          have BK140 := n0_
                          have BK144 := n1_
                          have HB := n2_
                          clear n0_ n1_ n2_
                          (try clear hb)
                          (try clear hb2)
                          (try clear hk)
                          (try clear hi)
                          refine hK.out _ _ ⟨(blk_cell BK144.out 0).trans rfl, (blk_cell BK144.out 1).trans rfl, (blk_cell BK144.out 2).trans rfl, (blk_cell BK144.out 3).trans rfl, (blk_cell BK144.out 4).trans rfl, (blk_cell BK144.out 5).trans rfl, (blk_cell BK140.out 0).trans rfl, (blk_cell BK140.out 1).trans rfl, (blk_cell BK140.out 2).trans rfl, (blk_cell BK140.out 3).trans rfl, (blk_cell BK140.out 4).trans rfl⟩ (fun hHeld => ?_)
                          clear hK K
                          refine nx_ (N := some 75) ?_
                          refine one_ (i := 5) (N := some 78) (bz 25 255) rfl rfl (one_of HT_.out (by kernel_rfl)) (by decide) (fun K hK => ?_)
                          refine goes_ Try.func96 (by kernel_rfl) rfl #[.agg #[.int .i64 a0_1, .int .i64 a0_2, .int .i64 a0_3]] (by rfl) rfl rfl Z41 ?_
                          with_reducible refine (spec_VecTop.calls a0_1 a0_2 a0_3 t151 _ A58.out).mono ?_
                          rintro e w76 ⟨rfl, hb⟩
                          refine ⟨_, rfl, ?_⟩
                          have n0_ := Aside0.mk (blk_below (g := gb140) (o := .cells #[.int .i64 a0_0, .int .i64 a0_1, .int .i64 a0_2, .int .i64 a0_3, .slice (some ad143) l0_4.length c0_4] 52 (0, 0)) Z59 hb)
                          have n1_ := Aside0.mk (blk_below (g := gb144) (o := .cells #[.int .i64 ((rd_T136 l0_4 x3_2).f0), .int .i64 ((rd_T136 l0_4 x3_2).f1), .bool ((rd_T136 l0_4 x3_2).f2), .int .i64 ((rd_T136 l0_4 x3_2).f3.f0), .int .i64 ((rd_T136 l0_4 x3_2).f3.f1), .int .i64 ((rd_T136 l0_4 x3_2).f3.f2)] 136 (0, 0)) Z60 hb)
                          have n2_ := Aside0.mk (below_step Z8 hb)
                          clear BK140
                          clear BK144
                          clear HB
                          have BK140 := n0_
                          have BK144 := n1_
                          have HB := n2_
                          clear n0_ n1_ n2_
                          (try clear hb)
                          (try clear hb2)
                          (try clear hk)
                          (try clear hi)
                          refine hK.out _ _ ⟨(blk_cell BK144.out 0).trans rfl, (blk_cell BK144.out 1).trans rfl, (blk_cell BK144.out 2).trans rfl, (blk_cell BK144.out 3).trans rfl, (blk_cell BK144.out 4).trans rfl, (blk_cell BK144.out 5).trans rfl, (blk_cell BK140.out 0).trans rfl, (blk_cell BK140.out 1).trans rfl, (blk_cell BK140.out 2).trans rfl, (blk_cell BK140.out 3).trans rfl, (blk_cell BK140.out 4).trans rfl⟩ (fun hHeld => ?_)
                          clear hK K
                          refine nx_ (N := some 78) ?_
                          refine one_ (i := 8) (N := some 81) (bz 25 511) rfl rfl (one_of HT_.out (by kernel_rfl)) (by decide) (fun K hK => ?_)
                          refine goes_ Try.func61 (by kernel_rfl) rfl #[.int .i64 ((rd_T136 l0_4 x3_2).f1)] (by rfl) rfl rfl Z41 ?_
                          with_reducible refine (spec_Stride.calls ((rd_T136 l0_4 x3_2).f1) t152 _ A59.out).mono ?_
                          rintro e w' ⟨rfl, ⟨nd, rfl⟩⟩
                          refine ⟨_, rfl, ?_⟩
                          refine hK.out _ _ ⟨(blk_cell BK144.out 0).trans rfl, (blk_cell BK144.out 1).trans rfl, (blk_cell BK144.out 2).trans rfl, (blk_cell BK144.out 3).trans rfl, (blk_cell BK144.out 4).trans rfl, (blk_cell BK144.out 5).trans rfl, (blk_cell BK140.out 0).trans rfl, (blk_cell BK140.out 1).trans rfl, (blk_cell BK140.out 2).trans rfl, (blk_cell BK140.out 3).trans rfl, (blk_cell BK140.out 4).trans rfl⟩ (fun hHeld => ?_)
                          clear hK K
                          refine nx_ (N := some 81) ?_
                          refine px_ (i := 9) (N := some 82) (bz 25 1023) (any_of HT_.out (by kernel_rfl)) ?_
                          refine px_ (i := 10) (N := some 83) (bz 25 2047) (any_of HT_.out (by kernel_rfl)) ?_
                          refine px_ (i := 11) (N := some 84) (bz 25 4095) (any_of HT_.out (by kernel_rfl)) ?_
                          refine px_ (i := 12) (N := some 85) (bz 25 8191) (any_of HT_.out (by kernel_rfl)) ?_
                          refine px_ (i := 13) (N := some 86) (bz 25 16383) (any_of HT_.out (by kernel_rfl)) ?_
                          refine tx_ (i := 14) (N := some 87) (bz 25 32767) rfl rfl (take_ofW HT_.out HW_.out (by kernel_rfl)) hHeld Z94 ?_
                          refine px_ (i := 15) (N := some 88) (bz 25 65535) (any_of HT_.out (by kernel_rfl)) ?_
                          refine ox_ (i := 16) (N := some 89) (bz 25 131071) (any_of HT_.out (by kernel_rfl)) ?_
                          refine ox_ (i := 17) (N := some 90) (bz 25 262143) (any_of HT_.out (by kernel_rfl)) ?_
                          refine ox_ (i := 18) (N := some 91) (bz 25 524287) (any_of HT_.out (by kernel_rfl)) ?_
                          refine ox_ (i := 19) (N := some 92) (bz 25 1048575) (any_of HT_.out (by kernel_rfl)) ?_
                          refine ox_ (i := 20) (N := some 93) (bz 25 2097151) (any_of HT_.out (by kernel_rfl)) ?_
                          refine ox_ (i := 21) (N := some 94) (bz 25 4194303) (any_of HT_.out (by kernel_rfl)) ?_
                          refine ox_ (i := 22) (N := some 95) (bz 25 8388607) (any_of HT_.out (by kernel_rfl)) ?_
                          refine px_ (i := 23) (N := some 96) (bz 25 16777215) (any_of HT_.out (by kernel_rfl)) ?_
                          refine px_ (i := 24) (N := some 97) (bz 25 33554431) (any_of HT_.out (by kernel_rfl)) ?_
                          refine done_ (done_of HT_.out (by kernel_rfl)) ?_
                          try go_wp2
                          go_roundg kj21
                          case measure => have := HJ1.out; have := HK2.out; have := HJ21.out; omega
                          case rel => exact ⟨(wrap64 (x3_2 + 1)), Z98, H', ⟨by have := HJ1.out; have := HK2.out; have := HJ21.out; omega⟩, ⟨by (with_reducible repeat (first | refine blk_drewN ?_ _ | refine blk_drew ?_ | refine blk_alloc ?_ _)); exact BK140.out⟩, ⟨by repeat (first | (with_reducible first | exact HB.out | apply below_alloc | apply pw_below_drewN | apply below_drew1 | refine below_set ?_ GE140.out | refine below_set ?_ GE144.out) | exact HB.out)⟩⟩
              · rw [if_neg c21] at H
                exact absurd H (by simp)
            · rw [if_neg c20] at H
              have c20b0 : decide (x3_2 < (l0_4.length : Int)) = false := decide_eq_false c20
              clear c20
              obtain rfl := Option.some.inj H
              have hcz77_0 : wr.cell? ⟨gb140, 0, none⟩ = some (.int .i64 a0_0) := (blk_cell BK140.out 0).trans rfl
              have hcz77_1 : wr.cell? ⟨gb140, 1, none⟩ = some (.int .i64 a0_1) := (blk_cell BK140.out 1).trans rfl
              have hcz77_2 : wr.cell? ⟨gb140, 2, none⟩ = some (.int .i64 a0_2) := (blk_cell BK140.out 2).trans rfl
              have hcz77_3 : wr.cell? ⟨gb140, 3, none⟩ = some (.int .i64 a0_3) := (blk_cell BK140.out 3).trans rfl
              have hcz77_4 : wr.cell? ⟨gb140, 4, none⟩ = some (.slice A0_4 l0_4.length c0_4) := (blk_cell BK140.out 4).trans rfl
              have hfz77_0 := blk_frozen BK140.out 0
              have hfz77_1 := blk_frozen BK140.out 1
              have hfz77_2 := blk_frozen BK140.out 2
              have hfz77_3 := blk_frozen BK140.out 3
              have hfz77_4 := blk_frozen BK140.out 4
              go_wp2
              go_ret
              exact ⟨by first | rfl | (simp [errW_none, errW_some] <;> rfl) | (simp [*, errW_none, errW_some] <;> rfl), by repeat (first | (with_reducible first | exact HB.out | apply below_alloc | apply pw_below_drewN | apply below_drew1 | refine below_set ?_ GE140.out) | exact HB.out)⟩

end Go.Proofs.Yteecolnemffffaa.PFnExactTreeOk
