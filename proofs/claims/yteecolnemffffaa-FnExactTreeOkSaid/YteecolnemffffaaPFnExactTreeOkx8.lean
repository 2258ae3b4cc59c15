-- by a program of this session's, over the kit's words
import Derived.Test.YteecolnemffffaaPZFnExactTreeOk
import Derived.Test.YteecolnemffffaaPFnExactTreeOkx0
import Derived.Test.YteecolnemffffaaPFnExactTreeOkx6
import Derived.Test.YteecolnemffffaaPFnExactTreeOkx7
namespace Go.Proofs.Yteecolnemffffaa.PFnExactTreeOk
open Go.RowKit Go.Proofs.YteecolnemffffaaW.PrintWords Go.Proofs.YteecolnemffffaaW.PrintLast Go.Proofs.YteecolnemffffaaW.PrintMore Go.Proofs.YteecolnemffffaaV Go.Proofs.Yteecolnemffffaa.ZFnExactTreeOk
attribute [local go_sem] max2_int min2_int max_two min_two max_three min_three max_four min_four   -- for this text's walks alone
set_option linter.unusedVariables false
set_option linter.unusedSimpArgs false

/-! ### impl_FairOk: function 117 -/
mutual
def impl_FairOk.j0 : Nat → Bool → Int → Int → Int → Int → List (S136) → Option (Bool)
  | 0, _, _, _, _, _, _ => none
  | k + 1, x22, x264000, x264001, x264002, x264003, x264004 => if x22 = true then (some false) else (impl_FairOk.l0 k x264004 (x264004.length : Int) 0 x264000 x264001 x264002 x264003 x264004)
def impl_FairOk.l0 : Nat → List (S136) → Int → Int → Int → Int → Int → Int → List (S136) → Option (Bool)
  | 0, _, _, _, _, _, _, _, _ => none
  | k + 1, x24, x25, x26, x264000, x264001, x264002, x264003, x264004 => if x26 < x25 then (if 0 ≤ x26 then (if x26 < (x24.length : Int) then ((impl_Fair_kidOk.f x264000 x264001 x264002 x264003 x264004 ((rd_T136 x24 x26).f0) ((rd_T136 x24 x26).f1) ((rd_T136 x24 x26).f2) ((rd_T136 x24 x26).f3.f0) ((rd_T136 x24 x26).f3.f1) ((rd_T136 x24 x26).f3.f2)).bind fun t268 => (if t268 = true then (if x26 > 0 then (if 0 ≤ (wrap64 (x26 - 1)) then (if (wrap64 (x26 - 1)) < (x264004.length : Int) then (if ((rd_T136 x264004 (wrap64 (x26 - 1))).f0) ≥ ((rd_T136 x24 x26).f0) then (some false) else (impl_FairOk.l0 k x24 x25 (wrap64 (x26 + 1)) x264000 x264001 x264002 x264003 x264004)) else (none)) else (none)) else (impl_FairOk.l0 k x24 x25 (wrap64 (x26 + 1)) x264000 x264001 x264002 x264003 x264004)) else (some false))) else (none)) else (none)) else (some true)
end
def impl_FairOk.f (k : Nat) (a0_0 : Int) (a0_1 : Int) (a0_2 : Int) (a0_3 : Int) (l0_4 : List (S136)) : Option (Bool) := (impl_Narrow.f a0_1 a0_2 a0_3 a0_0).bind fun t264 => (if t264 = true then ((impl_VecTop.f a0_1 a0_2 a0_3).bind fun t265 => (if t265 > 100000000000 then (impl_FairOk.j0 k true a0_0 a0_1 a0_2 a0_3 l0_4) else (impl_FairOk.j0 k (decide ((l0_4.length : Int) > 48)) a0_0 a0_1 a0_2 a0_3 l0_4))) else (impl_FairOk.j0 k true a0_0 a0_1 a0_2 a0_3 l0_4))
def impl_FairOk.T6 : Bool × List (List Nat × List Nat) := (true, [([], []), ([], []), ([0, 1], [0, 1]), ([2], [2]), ([3, 2], [3]), ([4], [4]), ([5, 4], [4, 5]), ([6, 4, 4], [4, 6]), ([7], [7]), ([8, 7], [7, 8]), ([7], [7]), ([10, 7], [7, 10]), ([9, 11, 7], [7, 9, 11]), ([12, 7], [7, 12]), ([13, 7], [7, 13]), ([7], [7]), ([15, 7], [7, 15]), ([14, 16, 7], [7, 14, 16]), ([7, 17, 4], [4, 7, 17]), ([4, 18], [4, 18])])
def impl_FairOk.B6 : List Nat := [0, 0, 3, 7, 15, 31, 63, 127, 255, 511, 255, 1279, 4095, 8191, 16383, 255, 33023, 131071, 262143, 524287]
theorem impl_FairOk.tab6 : rtab .any (opsOf Try.f117 6) = impl_FairOk.T6 := by kernel_rfl
theorem impl_FairOk.bits6 : waitsOk impl_FairOk.T6.2 impl_FairOk.B6 = true := by kernel_rfl
set_option maxHeartbeats 8000000 in
set_option maxRecDepth 100000 in
theorem impl_FairOk.calls (k : Nat) (a0_0 : Int) (a0_1 : Int) (a0_2 : Int) (a0_3 : Int) (A0_4 : Option Addr) (c0_4 : Nat) (l0_4 : List (S136)) (r : Bool) (w : World) (hr0_4 : Kd.C k136 w A0_4 l0_4.length l0_4) (hc0_4 : l0_4.length ≤ c0_4) (h : impl_FairOk.f k a0_0 a0_1 a0_2 a0_3 l0_4 = some r) :
    Calls Try.prog 117 #[.agg #[.int .i64 a0_0, .int .i64 a0_1, .int .i64 a0_2, .int .i64 a0_3, .slice A0_4 l0_4.length c0_4]] w fun e w' => e = .returned (.bool r) ∧ Below w.heap.size w w' := by
  have hu52 := Try.underlying52
  have hu49 := Try.underlying49
  have hu136 := Try.underlying136
  have HR0_4 := Aside0.mk hr0_4
  have HC0_4 := Aside0.mk hc0_4
  clear hr0_4 hc0_4
  have HB := Aside0.mk (Below.refl w.heap.size w)
  have H : ((impl_Narrow.f a0_1 a0_2 a0_3 a0_0).bind fun t264 => (if t264 = true then ((impl_VecTop.f a0_1 a0_2 a0_3).bind fun t265 => (if t265 > 100000000000 then (impl_FairOk.j0 k true a0_0 a0_1 a0_2 a0_3 l0_4) else (impl_FairOk.j0 k (decide ((l0_4.length : Int) > 48)) a0_0 a0_1 a0_2 a0_3 l0_4))) else (impl_FairOk.j0 k true a0_0 a0_1 a0_2 a0_3 l0_4))) = some r := h
  clear h
  have HC2 := Aside0.mk H
  clear H
  go_enter Try.func117, Try.ntmps117
  go_upto_region 1 with (first | ((with_reducible refine gate_dst (N := 1) rfl ?_); (try (refine gate_guard (by rfl) ?_; dsimp only)); refine box_event ?hg (N := 1) ?hd (cs := #[.int .i64 a0_0, .int .i64 a0_1, .int .i64 a0_2, .int .i64 a0_3, .slice A0_4 l0_4.length c0_4]) (t := 52) ?hr ?_; (case hd => rfl); (case hg => rfl); (case hr => first | (go_simp; done) | (go_simp; rfl)); intro gb263 hg w3 hbox hb; have n0_ := Aside0.mk (below_step Z42 hb); have n1_ := Aside0.mk (hbox); have n2_ := Aside0.mk ((by rw [hg]; exact (below_size Z42) : w.heap.size ≤ gb263)); have n3_ := Aside0.mk ((by rw [hg]; exact (below_size Z42) : w.heap.size ≤ gb263)); clear HB; have HB := n0_; have BK263 := n1_; have GW263 := n2_; have GE263 := n3_; clear n0_ n1_ n2_ n3_; clear hb hbox hg))
  (try simp only [Act.put, List.setIfInBounds_toArray, List.set_cons_zero, List.set_cons_succ])
  go_cut [22] (fun v22 wc => ∃ (kq : Nat) (x22_1 : Bool), v22 = .bool x22_1 ∧ Aside0 (impl_FairOk.j0 kq x22_1 a0_0 a0_1 a0_2 a0_3 l0_4 = some r) ∧ Aside0 (kq ≤ k) ∧ Aside0 (wc.heap[gb263]? = some (.cells #[.int .i64 a0_0, .int .i64 a0_1, .int .i64 a0_2, .int .i64 a0_3, (.slice A0_4 l0_4.length c0_4)] 52 (0, 0))) ∧ Aside0 (Below w.heap.size w wc))
  case first =>
    have H := HC2.out
    clear HC2
    replace H := Option.bind_eq_some_iff.mp H
    obtain ⟨t264, A40, H⟩ := H
    replace H : (if t264 = true then ((impl_VecTop.f a0_1 a0_2 a0_3).bind fun t265 => (if t265 > 100000000000 then (impl_FairOk.j0 k true a0_0 a0_1 a0_2 a0_3 l0_4) else (impl_FairOk.j0 k (decide ((l0_4.length : Int) > 48)) a0_0 a0_1 a0_2 a0_3 l0_4))) else (impl_FairOk.j0 k true a0_0 a0_1 a0_2 a0_3 l0_4)) = some r := H
    have A4 := Aside0.mk A40
    clear A40
    by_cases c5 : t264 = true
    · subst c5
      have H1 : ((impl_VecTop.f a0_1 a0_2 a0_3).bind fun t265 => (if t265 > 100000000000 then (impl_FairOk.j0 k true a0_0 a0_1 a0_2 a0_3 l0_4) else (impl_FairOk.j0 k (decide ((l0_4.length : Int) > 48)) a0_0 a0_1 a0_2 a0_3 l0_4))) = some r := by rw [if_pos rfl] at H; exact H
      clear H
      have H := H1
      clear H1
      replace H := Option.bind_eq_some_iff.mp H
      obtain ⟨t265, A60, H⟩ := H
      replace H : (if t265 > 100000000000 then (impl_FairOk.j0 k true a0_0 a0_1 a0_2 a0_3 l0_4) else (impl_FairOk.j0 k (decide ((l0_4.length : Int) > 48)) a0_0 a0_1 a0_2 a0_3 l0_4)) = some r := H
      have A6 := Aside0.mk A60
      clear A60
      by_cases c7 : t265 > 100000000000
      · rw [if_pos c7] at H
        have c7b0 : decide (100000000000 < t265) = true := decide_eq_true c7
        clear c7
        (first | rw [c7b0] | (simp only [i64_w, i32_w]; rw [c7b0]) | (have cz_ := c7b0; simp only [bne, gt_iff_lt, Int.natCast_pos] at cz_; first | rw [cz_] | (simp only [i64_w, i32_w]; rw [cz_])) | skip)
        have H' := Aside0.mk H
        clear H
        have hcz8_0 : w3.cell? ⟨gb263, 0, none⟩ = some (.int .i64 a0_0) := (blk_cell BK263.out 0).trans rfl
        have hcz8_1 : w3.cell? ⟨gb263, 1, none⟩ = some (.int .i64 a0_1) := (blk_cell BK263.out 1).trans rfl
        have hcz8_2 : w3.cell? ⟨gb263, 2, none⟩ = some (.int .i64 a0_2) := (blk_cell BK263.out 2).trans rfl
        have hcz8_3 : w3.cell? ⟨gb263, 3, none⟩ = some (.int .i64 a0_3) := (blk_cell BK263.out 3).trans rfl
        have hcz8_4 : w3.cell? ⟨gb263, 4, none⟩ = some (.slice A0_4 l0_4.length c0_4) := (blk_cell BK263.out 4).trans rfl
        have hfz8_0 := blk_frozen BK263.out 0
        have hfz8_1 := blk_frozen BK263.out 1
        have hfz8_2 := blk_frozen BK263.out 2
        have hfz8_3 := blk_frozen BK263.out 3
        have hfz8_4 := blk_frozen BK263.out 4
        go_wp2_with (first | ((with_reducible refine gate_callee (f := 154) rfl ?_); refine goesL_ (some 9) rfl rfl Try.func154 (by kernel_rfl) rfl #[.agg #[.int .i64 a0_1, .int .i64 a0_2, .int .i64 a0_3], .int .i64 a0_0] rfl Z41 ?_; (with_reducible refine (impl_Narrow.calls a0_1 a0_2 a0_3 a0_0 true _ A4.out).mono ?_); rintro e w9 ⟨rfl, hb⟩; refine ⟨_, rfl, ?_⟩; have n0_ := Aside0.mk (blk_below (g := gb263) (o := .cells #[.int .i64 a0_0, .int .i64 a0_1, .int .i64 a0_2, .int .i64 a0_3, .slice A0_4 l0_4.length c0_4] 52 (0, 0)) Z77 hb); have n1_ := Aside0.mk (below_step Z37 hb); clear BK263; clear HB; have BK263 := n0_; have HB := n1_; clear n0_ n1_; (try clear hb); (try clear hb2); (try clear hk); (try clear hi); have hcz10_0 : w9.cell? ⟨gb263, 0, none⟩ = some (.int .i64 a0_0) := (blk_cell BK263.out 0).trans rfl; have hcz10_1 : w9.cell? ⟨gb263, 1, none⟩ = some (.int .i64 a0_1) := (blk_cell BK263.out 1).trans rfl; have hcz10_2 : w9.cell? ⟨gb263, 2, none⟩ = some (.int .i64 a0_2) := (blk_cell BK263.out 2).trans rfl; have hcz10_3 : w9.cell? ⟨gb263, 3, none⟩ = some (.int .i64 a0_3) := (blk_cell BK263.out 3).trans rfl; have hcz10_4 : w9.cell? ⟨gb263, 4, none⟩ = some (.slice A0_4 l0_4.length c0_4) := (blk_cell BK263.out 4).trans rfl; have hfz10_0 := blk_frozen BK263.out 0; have hfz10_1 := blk_frozen BK263.out 1; have hfz10_2 := blk_frozen BK263.out 2; have hfz10_3 := blk_frozen BK263.out 3; have hfz10_4 := blk_frozen BK263.out 4) | (go_at_call 98; (with_reducible refine (impl_VecTop.calls a0_1 a0_2 a0_3 t265 _ A6.out).mono ?_); rintro e w11 ⟨rfl, hb⟩; have n0_ := Aside0.mk (blk_below (g := gb263) (o := .cells #[.int .i64 a0_0, .int .i64 a0_1, .int .i64 a0_2, .int .i64 a0_3, .slice A0_4 l0_4.length c0_4] 52 (0, 0)) Z77 hb); have n1_ := Aside0.mk (below_step Z37 hb); clear BK263; clear HB; have BK263 := n0_; have HB := n1_; clear n0_ n1_; (try clear hb); (try clear hb2); (try clear hk); (try clear hi)))
        go_meet
        case rel => exact ⟨_, (true), Z98, H', ⟨by first | omega | exact Nat.le_refl _⟩, ⟨by (with_reducible repeat (first | refine blk_drewN ?_ _ | refine blk_drew ?_ | refine blk_alloc ?_ _)); exact BK263.out⟩, ⟨by repeat (first | (with_reducible first | exact HB.out | apply below_alloc | apply pw_below_drewN | apply below_drew1 | refine below_set ?_ GE263.out) | exact HB.out)⟩⟩
      · rw [if_neg c7] at H
        have c7b0 : decide (100000000000 < t265) = false := decide_eq_false c7
        clear c7
        (first | rw [c7b0] | (simp only [i64_w, i32_w]; rw [c7b0]) | (have cz_ := c7b0; simp only [bne, gt_iff_lt, Int.natCast_pos] at cz_; first | rw [cz_] | (simp only [i64_w, i32_w]; rw [cz_])) | skip)
        have H' := Aside0.mk H
        clear H
        have hcz12_0 : w3.cell? ⟨gb263, 0, none⟩ = some (.int .i64 a0_0) := (blk_cell BK263.out 0).trans rfl
        have hcz12_1 : w3.cell? ⟨gb263, 1, none⟩ = some (.int .i64 a0_1) := (blk_cell BK263.out 1).trans rfl
        have hcz12_2 : w3.cell? ⟨gb263, 2, none⟩ = some (.int .i64 a0_2) := (blk_cell BK263.out 2).trans rfl
        have hcz12_3 : w3.cell? ⟨gb263, 3, none⟩ = some (.int .i64 a0_3) := (blk_cell BK263.out 3).trans rfl
        have hcz12_4 : w3.cell? ⟨gb263, 4, none⟩ = some (.slice A0_4 l0_4.length c0_4) := (blk_cell BK263.out 4).trans rfl
        have hfz12_0 := blk_frozen BK263.out 0
        have hfz12_1 := blk_frozen BK263.out 1
        have hfz12_2 := blk_frozen BK263.out 2
        have hfz12_3 := blk_frozen BK263.out 3
        have hfz12_4 := blk_frozen BK263.out 4
        go_wp2_with (first | ((with_reducible refine gate_callee (f := 154) rfl ?_); refine goesL_ (some 9) rfl rfl Try.func154 (by kernel_rfl) rfl #[.agg #[.int .i64 a0_1, .int .i64 a0_2, .int .i64 a0_3], .int .i64 a0_0] rfl Z41 ?_; (with_reducible refine (impl_Narrow.calls a0_1 a0_2 a0_3 a0_0 true _ A4.out).mono ?_); rintro e w13 ⟨rfl, hb⟩; refine ⟨_, rfl, ?_⟩; have n0_ := Aside0.mk (blk_below (g := gb263) (o := .cells #[.int .i64 a0_0, .int .i64 a0_1, .int .i64 a0_2, .int .i64 a0_3, .slice A0_4 l0_4.length c0_4] 52 (0, 0)) Z77 hb); have n1_ := Aside0.mk (below_step Z37 hb); clear BK263; clear HB; have BK263 := n0_; have HB := n1_; clear n0_ n1_; (try clear hb); (try clear hb2); (try clear hk); (try clear hi); have hcz14_0 : w13.cell? ⟨gb263, 0, none⟩ = some (.int .i64 a0_0) := (blk_cell BK263.out 0).trans rfl; have hcz14_1 : w13.cell? ⟨gb263, 1, none⟩ = some (.int .i64 a0_1) := (blk_cell BK263.out 1).trans rfl; have hcz14_2 : w13.cell? ⟨gb263, 2, none⟩ = some (.int .i64 a0_2) := (blk_cell BK263.out 2).trans rfl; have hcz14_3 : w13.cell? ⟨gb263, 3, none⟩ = some (.int .i64 a0_3) := (blk_cell BK263.out 3).trans rfl; have hcz14_4 : w13.cell? ⟨gb263, 4, none⟩ = some (.slice A0_4 l0_4.length c0_4) := (blk_cell BK263.out 4).trans rfl; have hfz14_0 := blk_frozen BK263.out 0; have hfz14_1 := blk_frozen BK263.out 1; have hfz14_2 := blk_frozen BK263.out 2; have hfz14_3 := blk_frozen BK263.out 3; have hfz14_4 := blk_frozen BK263.out 4) | (go_at_call 98; (with_reducible refine (impl_VecTop.calls a0_1 a0_2 a0_3 t265 _ A6.out).mono ?_); rintro e w15 ⟨rfl, hb⟩; have n0_ := Aside0.mk (blk_below (g := gb263) (o := .cells #[.int .i64 a0_0, .int .i64 a0_1, .int .i64 a0_2, .int .i64 a0_3, .slice A0_4 l0_4.length c0_4] 52 (0, 0)) Z77 hb); have n1_ := Aside0.mk (below_step Z37 hb); clear BK263; clear HB; have BK263 := n0_; have HB := n1_; clear n0_ n1_; (try clear hb); (try clear hb2); (try clear hk); (try clear hi); have hcz16_0 : w15.cell? ⟨gb263, 0, none⟩ = some (.int .i64 a0_0) := (blk_cell BK263.out 0).trans rfl; have hcz16_1 : w15.cell? ⟨gb263, 1, none⟩ = some (.int .i64 a0_1) := (blk_cell BK263.out 1).trans rfl; have hcz16_2 : w15.cell? ⟨gb263, 2, none⟩ = some (.int .i64 a0_2) := (blk_cell BK263.out 2).trans rfl; have hcz16_3 : w15.cell? ⟨gb263, 3, none⟩ = some (.int .i64 a0_3) := (blk_cell BK263.out 3).trans rfl; have hcz16_4 : w15.cell? ⟨gb263, 4, none⟩ = some (.slice A0_4 l0_4.length c0_4) := (blk_cell BK263.out 4).trans rfl; have hfz16_0 := blk_frozen BK263.out 0; have hfz16_1 := blk_frozen BK263.out 1; have hfz16_2 := blk_frozen BK263.out 2; have hfz16_3 := blk_frozen BK263.out 3; have hfz16_4 := blk_frozen BK263.out 4))
        go_meet
        case rel => exact ⟨_, (decide ((l0_4.length : Int) > 48)), Z98, H', ⟨by first | omega | exact Nat.le_refl _⟩, ⟨by (with_reducible repeat (first | refine blk_drewN ?_ _ | refine blk_drew ?_ | refine blk_alloc ?_ _)); exact BK263.out⟩, ⟨by repeat (first | (with_reducible first | exact HB.out | apply below_alloc | apply pw_below_drewN | apply below_drew1 | refine below_set ?_ GE263.out) | exact HB.out)⟩⟩
    · replace c5 := Bool.eq_false_iff.mpr c5
      subst c5
      have H1 : (impl_FairOk.j0 k true a0_0 a0_1 a0_2 a0_3 l0_4) = some r := by rw [if_neg (show ¬ (false = true) by decide)] at H; exact H
      clear H
      have H := H1
      clear H1
      have H' := Aside0.mk H
      clear H
      have hcz17_0 : w3.cell? ⟨gb263, 0, none⟩ = some (.int .i64 a0_0) := (blk_cell BK263.out 0).trans rfl
      have hcz17_1 : w3.cell? ⟨gb263, 1, none⟩ = some (.int .i64 a0_1) := (blk_cell BK263.out 1).trans rfl
      have hcz17_2 : w3.cell? ⟨gb263, 2, none⟩ = some (.int .i64 a0_2) := (blk_cell BK263.out 2).trans rfl
      have hcz17_3 : w3.cell? ⟨gb263, 3, none⟩ = some (.int .i64 a0_3) := (blk_cell BK263.out 3).trans rfl
      have hcz17_4 : w3.cell? ⟨gb263, 4, none⟩ = some (.slice A0_4 l0_4.length c0_4) := (blk_cell BK263.out 4).trans rfl
      have hfz17_0 := blk_frozen BK263.out 0
      have hfz17_1 := blk_frozen BK263.out 1
      have hfz17_2 := blk_frozen BK263.out 2
      have hfz17_3 := blk_frozen BK263.out 3
      have hfz17_4 := blk_frozen BK263.out 4
      go_wp2_with (first | ((with_reducible refine gate_callee (f := 154) rfl ?_); refine goesL_ (some 9) rfl rfl Try.func154 (by kernel_rfl) rfl #[.agg #[.int .i64 a0_1, .int .i64 a0_2, .int .i64 a0_3], .int .i64 a0_0] rfl Z41 ?_; (with_reducible refine (impl_Narrow.calls a0_1 a0_2 a0_3 a0_0 false _ A4.out).mono ?_); rintro e w18 ⟨rfl, hb⟩; refine ⟨_, rfl, ?_⟩; have n0_ := Aside0.mk (blk_below (g := gb263) (o := .cells #[.int .i64 a0_0, .int .i64 a0_1, .int .i64 a0_2, .int .i64 a0_3, .slice A0_4 l0_4.length c0_4] 52 (0, 0)) Z77 hb); have n1_ := Aside0.mk (below_step Z37 hb); clear BK263; clear HB; have BK263 := n0_; have HB := n1_; clear n0_ n1_; (try clear hb); (try clear hb2); (try clear hk); (try clear hi)))
      go_meet
      case rel => exact ⟨_, (true), Z98, H', ⟨by first | omega | exact Nat.le_refl _⟩, ⟨by (with_reducible repeat (first | refine blk_drewN ?_ _ | refine blk_drew ?_ | refine blk_alloc ?_ _)); exact BK263.out⟩, ⟨by repeat (first | (with_reducible first | exact HB.out | apply below_alloc | apply pw_below_drewN | apply below_drew1 | refine below_set ?_ GE263.out) | exact HB.out)⟩⟩
  case rest =>
    clear HC2
    try clear c1
    try clear p2
    try clear c5
    try clear c7
    try clear c7b0
    try clear c11
    try clear c15
    try clear hcz10_0
    try clear hcz10_1
    try clear hcz10_2
    try clear hcz10_3
    try clear hcz10_4
    try clear hcz12_0
    try clear hcz12_1
    try clear hcz12_2
    try clear hcz12_3
    try clear hcz12_4
    try clear hcz14_0
    try clear hcz14_1
    try clear hcz14_2
    try clear hcz14_3
    try clear hcz14_4
    try clear hcz16_0
    try clear hcz16_1
    try clear hcz16_2
    try clear hcz16_3
    try clear hcz16_4
    try clear hcz17_0
    try clear hcz17_1
    try clear hcz17_2
    try clear hcz17_3
    try clear hcz17_4
    try clear hcz8_0
    try clear hcz8_1
    try clear hcz8_2
    try clear hcz8_3
    try clear hcz8_4
    try clear hfz10_0
    try clear hfz10_1
    try clear hfz10_2
    try clear hfz10_3
    try clear hfz10_4
    try clear hfz12_0
    try clear hfz12_1
    try clear hfz12_2
    try clear hfz12_3
    try clear hfz12_4
    try clear hfz14_0
    try clear hfz14_1
    try clear hfz14_2
    try clear hfz14_3
    try clear hfz14_4
    try clear hfz16_0
    try clear hfz16_1
    try clear hfz16_2
    try clear hfz16_3
    try clear hfz16_4
    try clear hfz17_0
    try clear hfz17_1
    try clear hfz17_2
    try clear hfz17_3
    try clear hfz17_4
    try clear hfz8_0
    try clear hfz8_1
    try clear hfz8_2
    try clear hfz8_3
    try clear hfz8_4
    obtain ⟨kq, x22_1, rfl, HA, HJ1, BK263, HB⟩ := hcut
    cases kq with
    | zero => exact absurd HA.out (by simp [impl_FairOk.j0])
    | succ kj1 =>
      have H := HA.out
      clear HA
      simp only [impl_FairOk.j0] at H
      by_cases c19 : x22_1 = true
      · subst c19
        have H1 : (some false) = some r := by rw [if_pos rfl] at H; exact H
        clear H
        have H := H1
        clear H1
        obtain rfl := Option.some.inj H
        go_wp2
        go_ret
        exact ⟨by first | rfl | (simp [errW_none, errW_some] <;> rfl) | (simp [*, errW_none, errW_some] <;> rfl), by repeat (first | (with_reducible first | exact HB.out | apply below_alloc | apply pw_below_drewN | apply below_drew1 | refine below_set ?_ GE263.out) | exact HB.out)⟩
      · replace c19 := Bool.eq_false_iff.mpr c19
        subst c19
        have H1 : (impl_FairOk.l0 kj1 l0_4 (l0_4.length : Int) 0 a0_0 a0_1 a0_2 a0_3 l0_4) = some r := by rw [if_neg (show ¬ (false = true) by decide)] at H; exact H
        clear H
        have H := H1
        clear H1
        have H' := Aside0.mk H
        clear H
        have hcz20_0 : wc.cell? ⟨gb263, 0, none⟩ = some (.int .i64 a0_0) := (blk_cell BK263.out 0).trans rfl
        have hcz20_1 : wc.cell? ⟨gb263, 1, none⟩ = some (.int .i64 a0_1) := (blk_cell BK263.out 1).trans rfl
        have hcz20_2 : wc.cell? ⟨gb263, 2, none⟩ = some (.int .i64 a0_2) := (blk_cell BK263.out 2).trans rfl
        have hcz20_3 : wc.cell? ⟨gb263, 3, none⟩ = some (.int .i64 a0_3) := (blk_cell BK263.out 3).trans rfl
        have hcz20_4 : wc.cell? ⟨gb263, 4, none⟩ = some (.slice A0_4 l0_4.length c0_4) := (blk_cell BK263.out 4).trans rfl
        have hfz20_0 := blk_frozen BK263.out 0
        have hfz20_1 := blk_frozen BK263.out 1
        have hfz20_2 := blk_frozen BK263.out 2
        have hfz20_3 := blk_frozen BK263.out 3
        have hfz20_4 := blk_frozen BK263.out 4
        go_wp2
        go_loopg [26] kj1 (fun kq v26 w' => ∃ (x26_2 : Int), v26 = .int .i64 x26_2 ∧ Aside0 (impl_FairOk.l0 kq l0_4 (l0_4.length : Int) x26_2 a0_0 a0_1 a0_2 a0_3 l0_4 = some r) ∧ Aside0 (kq ≤ kj1) ∧ Aside0 (w'.heap[gb263]? = some (.cells #[.int .i64 a0_0, .int .i64 a0_1, .int .i64 a0_2, .int .i64 a0_3, (.slice A0_4 l0_4.length c0_4)] 52 (0, 0))) ∧ Aside0 (Below w.heap.size w w'))
        case atStart => exact ⟨(0), Z98, H', ⟨Nat.le_refl _⟩, ⟨by (with_reducible repeat (first | refine blk_drewN ?_ _ | refine blk_drew ?_ | refine blk_alloc ?_ _)); exact BK263.out⟩, ⟨by repeat (first | (with_reducible first | exact HB.out | apply below_alloc | apply pw_below_drewN | apply below_drew1 | refine below_set ?_ GE263.out) | exact HB.out)⟩⟩
        case round =>
          clear H'
          try clear c1
          try clear p2
          try clear c5
          try clear c7
          try clear c7b0
          try clear c11
          try clear c15
          try clear c19
          try clear hcz10_0
          try clear hcz10_1
          try clear hcz10_2
          try clear hcz10_3
          try clear hcz10_4
          try clear hcz12_0
          try clear hcz12_1
          try clear hcz12_2
          try clear hcz12_3
          try clear hcz12_4
          try clear hcz14_0
          try clear hcz14_1
          try clear hcz14_2
          try clear hcz14_3
          try clear hcz14_4
          try clear hcz16_0
          try clear hcz16_1
          try clear hcz16_2
          try clear hcz16_3
          try clear hcz16_4
          try clear hcz17_0
          try clear hcz17_1
          try clear hcz17_2
          try clear hcz17_3
          try clear hcz17_4
          try clear hcz20_0
          try clear hcz20_1
          try clear hcz20_2
          try clear hcz20_3
          try clear hcz20_4
          try clear hcz8_0
          try clear hcz8_1
          try clear hcz8_2
          try clear hcz8_3
          try clear hcz8_4
          try clear hfz10_0
          try clear hfz10_1
          try clear hfz10_2
          try clear hfz10_3
          try clear hfz10_4
          try clear hfz12_0
          try clear hfz12_1
          try clear hfz12_2
          try clear hfz12_3
          try clear hfz12_4
          try clear hfz14_0
          try clear hfz14_1
          try clear hfz14_2
          try clear hfz14_3
          try clear hfz14_4
          try clear hfz16_0
          try clear hfz16_1
          try clear hfz16_2
          try clear hfz16_3
          try clear hfz16_4
          try clear hfz17_0
          try clear hfz17_1
          try clear hfz17_2
          try clear hfz17_3
          try clear hfz17_4
          try clear hfz20_0
          try clear hfz20_1
          try clear hfz20_2
          try clear hfz20_3
          try clear hfz20_4
          try clear hfz8_0
          try clear hfz8_1
          try clear hfz8_2
          try clear hfz8_3
          try clear hfz8_4
          try clear p2
          obtain ⟨x26_2, rfl, HA, HK2, BK263, HB⟩ := hrel
          cases gk with
          | zero => exact absurd HA.out (by simp [impl_FairOk.l0])
          | succ k2 =>
            have H := HA.out
            clear HA
            simp only [impl_FairOk.l0] at H
            by_cases c21 : x26_2 < (l0_4.length : Int)
            · rw [if_pos c21] at H
              have c21b0 : decide (x26_2 < (l0_4.length : Int)) = true := decide_eq_true c21
              clear c21
              by_cases c22 : 0 ≤ x26_2
              · rw [if_pos c22] at H
                have c22b0 : decide (0 ≤ x26_2) = true := decide_eq_true c22
                clear c22
                by_cases c23 : x26_2 < (l0_4.length : Int)
                · rw [if_pos c23] at H
                  have c23b0 : decide (x26_2 < (l0_4.length : Int)) = true := decide_eq_true c23
                  clear c23
                  replace H := Option.bind_eq_some_iff.mp H
                  obtain ⟨t268, A240, H⟩ := H
                  replace H : (if t268 = true then (if x26_2 > 0 then (if 0 ≤ (wrap64 (x26_2 - 1)) then (if (wrap64 (x26_2 - 1)) < (l0_4.length : Int) then (if ((rd_T136 l0_4 (wrap64 (x26_2 - 1))).f0) ≥ ((rd_T136 l0_4 x26_2).f0) then (some false) else (impl_FairOk.l0 k2 l0_4 (l0_4.length : Int) (wrap64 (x26_2 + 1)) a0_0 a0_1 a0_2 a0_3 l0_4)) else (none)) else (none)) else (impl_FairOk.l0 k2 l0_4 (l0_4.length : Int) (wrap64 (x26_2 + 1)) a0_0 a0_1 a0_2 a0_3 l0_4)) else (some false)) = some r := H
                  have A24 := Aside0.mk A240
                  clear A240
                  by_cases c25 : t268 = true
                  · subst c25
                    have H1 : (if x26_2 > 0 then (if 0 ≤ (wrap64 (x26_2 - 1)) then (if (wrap64 (x26_2 - 1)) < (l0_4.length : Int) then (if ((rd_T136 l0_4 (wrap64 (x26_2 - 1))).f0) ≥ ((rd_T136 l0_4 x26_2).f0) then (some false) else (impl_FairOk.l0 k2 l0_4 (l0_4.length : Int) (wrap64 (x26_2 + 1)) a0_0 a0_1 a0_2 a0_3 l0_4)) else (none)) else (none)) else (impl_FairOk.l0 k2 l0_4 (l0_4.length : Int) (wrap64 (x26_2 + 1)) a0_0 a0_1 a0_2 a0_3 l0_4)) = some r := by rw [if_pos rfl] at H; exact H
                    clear H
                    have H := H1
                    clear H1
                    by_cases c26 : x26_2 > 0
                    · rw [if_pos c26] at H
                      have c26b0 : decide (0 < x26_2) = true := decide_eq_true c26
                      clear c26
                      obtain ⟨ji27, hji27⟩ : ∃ j_ : Int, (wrap64 (x26_2 - 1)) = j_ := ⟨_, rfl⟩
                      replace H : (if 0 ≤ (ji27) then (if (ji27) < (l0_4.length : Int) then (if ((rd_T136 l0_4 (ji27)).f0) ≥ ((rd_T136 l0_4 x26_2).f0) then (some false) else (impl_FairOk.l0 k2 l0_4 (l0_4.length : Int) (wrap64 (x26_2 + 1)) a0_0 a0_1 a0_2 a0_3 l0_4)) else (none)) else (none)) = some r := by first | (rw [hji27] at H; exact H) | (simp only [hji27] at H ⊢; exact H)
                      (try rw [hji27] at A24)
                      have hji27w : (IntKind.i64.wrap (x26_2 - 1)) = ji27 := (i64_w _).trans hji27
                      by_cases c28 : 0 ≤ (ji27)
                      · rw [if_pos c28] at H
                        have c28b0 : decide (0 ≤ (ji27)) = true := decide_eq_true c28
                        clear c28
                        by_cases c29 : (ji27) < (l0_4.length : Int)
                        · rw [if_pos c29] at H
                          have c29b0 : decide ((ji27) < (l0_4.length : Int)) = true := decide_eq_true c29
                          clear c29
                          have HU30 := Aside0.mk H
                          clear H
                          have p266 : 0 ≤ (x26_2 : Int) := of_decide_eq_true Z97
                          have q266 : x26_2 < (l0_4.length : Int) := of_decide_eq_true Z97
                          obtain ⟨ad266, e266, hx266_0, hx266_1, hx266_2, hx266_3, hx266_4, hx266_5⟩ := at_T136 HR0_4.out x26_2 p266 q266
                          cases e266
                          replace hx266_0 := (HB.out.cell (World.block_lt_of_cell? w _ hx266_0)).trans hx266_0
                          replace hx266_1 := (HB.out.cell (World.block_lt_of_cell? w _ hx266_1)).trans hx266_1
                          replace hx266_2 := (HB.out.cell (World.block_lt_of_cell? w _ hx266_2)).trans hx266_2
                          replace hx266_3 := (HB.out.cell (World.block_lt_of_cell? w _ hx266_3)).trans hx266_3
                          replace hx266_4 := (HB.out.cell (World.block_lt_of_cell? w _ hx266_4)).trans hx266_4
                          replace hx266_5 := (HB.out.cell (World.block_lt_of_cell? w _ hx266_5)).trans hx266_5
                          replace p266 := eq_true p266
                          replace q266 := eq_true q266
                          try go_wp2_with (first | ((with_reducible refine gate_dst (N := 4) rfl ?_); (try (refine gate_guard (by rfl) ?_; dsimp only)); refine box_event ?hg (N := 4) ?hd (cs := #[.int .i64 0, .int .i64 0, .bool false, .int .i64 0, .int .i64 0, .int .i64 0]) (t := 136) ?hr ?_; (case hd => rfl); (case hg => rfl); (case hr => first | (go_simp; done) | (go_simp; rfl)); intro gb267 hg w31 hbox hb; have n0_ := Aside0.mk (blk_below (g := gb263) (o := .cells #[.int .i64 a0_0, .int .i64 a0_1, .int .i64 a0_2, .int .i64 a0_3, .slice (some ad266) l0_4.length c0_4] 52 (0, 0)) Z77 hb); have n1_ := Aside0.mk (below_step Z37 hb); have n2_ := Aside0.mk (hbox); have n3_ := Aside0.mk ((by rw [hg]; exact (below_size Z37) : w.heap.size ≤ gb267)); have n4_ := Aside0.mk ((by rw [hg]; exact (below_size Z37) : w.heap.size ≤ gb267)); have n5_ := Aside0.mk ((by rw [hg]; exact Nat.ne_of_lt (blk_lt (g := gb263) (o := .cells #[.int .i64 a0_0, .int .i64 a0_1, .int .i64 a0_2, .int .i64 a0_3, .slice (some ad266) l0_4.length c0_4] 52 (0, 0)) Z77) : gb263 ≠ gb267)); have n6_ := Aside0.mk ((by rw [hg]; exact Nat.ne_of_gt (blk_lt (g := gb263) (o := .cells #[.int .i64 a0_0, .int .i64 a0_1, .int .i64 a0_2, .int .i64 a0_3, .slice (some ad266) l0_4.length c0_4] 52 (0, 0)) Z77) : gb267 ≠ gb263)); clear BK263; clear HB; have BK263 := n0_; have HB := n1_; have BK267 := n2_; have GW267 := n3_; have GE267 := n4_; have NB263_267 := n5_; have NB267_263 := n6_; clear n0_ n1_ n2_ n3_ n4_ n5_ n6_; clear hb hbox hg; (try have hnb32 := NB267_263.out); (try have hnc32 := NB263_267.out); have hcz33_0 : w31.cell? ⟨gb267, 0, none⟩ = some (.int .i64 0) := (blk_cell BK267.out 0).trans rfl; have hcz33_1 : w31.cell? ⟨gb267, 1, none⟩ = some (.int .i64 0) := (blk_cell BK267.out 1).trans rfl; have hcz33_2 : w31.cell? ⟨gb267, 2, none⟩ = some (.bool false) := (blk_cell BK267.out 2).trans rfl; have hcz33_3 : w31.cell? ⟨gb267, 3, none⟩ = some (.int .i64 0) := (blk_cell BK267.out 3).trans rfl; have hcz33_4 : w31.cell? ⟨gb267, 4, none⟩ = some (.int .i64 0) := (blk_cell BK267.out 4).trans rfl; have hcz33_5 : w31.cell? ⟨gb267, 5, none⟩ = some (.int .i64 0) := (blk_cell BK267.out 5).trans rfl; have hfz33_0 := blk_frozen BK267.out 0; have hfz33_1 := blk_frozen BK267.out 1; have hfz33_2 := blk_frozen BK267.out 2; have hfz33_3 := blk_frozen BK267.out 3; have hfz33_4 := blk_frozen BK267.out 4; have hfz33_5 := blk_frozen BK267.out 5))
                          have n0_ : Aside0 (((((((w31.setCell ⟨gb267, 0, none⟩ (.int .i64 ((rd_T136 l0_4 x26_2).f0))).setCell ⟨gb267, 1, none⟩ (.int .i64 ((rd_T136 l0_4 x26_2).f1))).setCell ⟨gb267, 2, none⟩ (.bool ((rd_T136 l0_4 x26_2).f2))).setCell ⟨gb267, 3, none⟩ (.int .i64 ((rd_T136 l0_4 x26_2).f3.f0))).setCell ⟨gb267, 4, none⟩ (.int .i64 ((rd_T136 l0_4 x26_2).f3.f1))).setCell ⟨gb267, 5, none⟩ (.int .i64 ((rd_T136 l0_4 x26_2).f3.f2))).heap[gb263]? = some (.cells #[.int .i64 a0_0, .int .i64 a0_1, .int .i64 a0_2, .int .i64 a0_3, .slice (some ad266) l0_4.length c0_4] 52 (0, 0))) := ⟨by (with_reducible repeat (first | refine blk_drewN ?_ _ | refine blk_drew ?_ | refine blk_alloc ?_ _)); refine blk_far ?_ NB263_267.out _; (with_reducible repeat (first | refine blk_drewN ?_ _ | refine blk_drew ?_ | refine blk_alloc ?_ _)); refine blk_far ?_ NB263_267.out _; (with_reducible repeat (first | refine blk_drewN ?_ _ | refine blk_drew ?_ | refine blk_alloc ?_ _)); refine blk_far ?_ NB263_267.out _; (with_reducible repeat (first | refine blk_drewN ?_ _ | refine blk_drew ?_ | refine blk_alloc ?_ _)); refine blk_far ?_ NB263_267.out _; (with_reducible repeat (first | refine blk_drewN ?_ _ | refine blk_drew ?_ | refine blk_alloc ?_ _)); refine blk_far ?_ NB263_267.out _; (with_reducible repeat (first | refine blk_drewN ?_ _ | refine blk_drew ?_ | refine blk_alloc ?_ _)); refine blk_far ?_ NB263_267.out _; (with_reducible repeat (first | refine blk_drewN ?_ _ | refine blk_drew ?_ | refine blk_alloc ?_ _)); exact BK263.out⟩
                          have n1_ : Aside0 (((((((w31.setCell ⟨gb267, 0, none⟩ (.int .i64 ((rd_T136 l0_4 x26_2).f0))).setCell ⟨gb267, 1, none⟩ (.int .i64 ((rd_T136 l0_4 x26_2).f1))).setCell ⟨gb267, 2, none⟩ (.bool ((rd_T136 l0_4 x26_2).f2))).setCell ⟨gb267, 3, none⟩ (.int .i64 ((rd_T136 l0_4 x26_2).f3.f0))).setCell ⟨gb267, 4, none⟩ (.int .i64 ((rd_T136 l0_4 x26_2).f3.f1))).setCell ⟨gb267, 5, none⟩ (.int .i64 ((rd_T136 l0_4 x26_2).f3.f2))).heap[gb267]? = some (.cells #[.int .i64 ((rd_T136 l0_4 x26_2).f0), .int .i64 ((rd_T136 l0_4 x26_2).f1), .bool ((rd_T136 l0_4 x26_2).f2), .int .i64 ((rd_T136 l0_4 x26_2).f3.f0), .int .i64 ((rd_T136 l0_4 x26_2).f3.f1), .int .i64 ((rd_T136 l0_4 x26_2).f3.f2)] 136 (0, 0))) := ⟨by (with_reducible repeat (first | refine blk_drewN ?_ _ | refine blk_drew ?_ | refine blk_alloc ?_ _)); refine blk_put (cs := #[.int .i64 ((rd_T136 l0_4 x26_2).f0), .int .i64 ((rd_T136 l0_4 x26_2).f1), .bool ((rd_T136 l0_4 x26_2).f2), .int .i64 ((rd_T136 l0_4 x26_2).f3.f0), .int .i64 ((rd_T136 l0_4 x26_2).f3.f1), .int .i64 0]) ?_ 5 _ rfl; (with_reducible repeat (first | refine blk_drewN ?_ _ | refine blk_drew ?_ | refine blk_alloc ?_ _)); refine blk_put (cs := #[.int .i64 ((rd_T136 l0_4 x26_2).f0), .int .i64 ((rd_T136 l0_4 x26_2).f1), .bool ((rd_T136 l0_4 x26_2).f2), .int .i64 ((rd_T136 l0_4 x26_2).f3.f0), .int .i64 0, .int .i64 0]) ?_ 4 _ rfl; (with_reducible repeat (first | refine blk_drewN ?_ _ | refine blk_drew ?_ | refine blk_alloc ?_ _)); refine blk_put (cs := #[.int .i64 ((rd_T136 l0_4 x26_2).f0), .int .i64 ((rd_T136 l0_4 x26_2).f1), .bool ((rd_T136 l0_4 x26_2).f2), .int .i64 0, .int .i64 0, .int .i64 0]) ?_ 3 _ rfl; (with_reducible repeat (first | refine blk_drewN ?_ _ | refine blk_drew ?_ | refine blk_alloc ?_ _)); refine blk_put (cs := #[.int .i64 ((rd_T136 l0_4 x26_2).f0), .int .i64 ((rd_T136 l0_4 x26_2).f1), .bool false, .int .i64 0, .int .i64 0, .int .i64 0]) ?_ 2 _ rfl; (with_reducible repeat (first | refine blk_drewN ?_ _ | refine blk_drew ?_ | refine blk_alloc ?_ _)); refine blk_put (cs := #[.int .i64 ((rd_T136 l0_4 x26_2).f0), .int .i64 0, .bool false, .int .i64 0, .int .i64 0, .int .i64 0]) ?_ 1 _ rfl; (with_reducible repeat (first | refine blk_drewN ?_ _ | refine blk_drew ?_ | refine blk_alloc ?_ _)); refine blk_put (cs := #[.int .i64 0, .int .i64 0, .bool false, .int .i64 0, .int .i64 0, .int .i64 0]) ?_ 0 _ rfl; (with_reducible repeat (first | refine blk_drewN ?_ _ | refine blk_drew ?_ | refine blk_alloc ?_ _)); exact BK267.out⟩
                          have n2_ : Aside0 (Below w.heap.size w ((((((w31.setCell ⟨gb267, 0, none⟩ (.int .i64 ((rd_T136 l0_4 x26_2).f0))).setCell ⟨gb267, 1, none⟩ (.int .i64 ((rd_T136 l0_4 x26_2).f1))).setCell ⟨gb267, 2, none⟩ (.bool ((rd_T136 l0_4 x26_2).f2))).setCell ⟨gb267, 3, none⟩ (.int .i64 ((rd_T136 l0_4 x26_2).f3.f0))).setCell ⟨gb267, 4, none⟩ (.int .i64 ((rd_T136 l0_4 x26_2).f3.f1))).setCell ⟨gb267, 5, none⟩ (.int .i64 ((rd_T136 l0_4 x26_2).f3.f2)))) := ⟨by repeat (first | (with_reducible first | exact HB.out | apply below_alloc | apply pw_below_drewN | apply below_drew1 | refine below_set ?_ GE263.out | refine below_set ?_ GE267.out) | exact HB.out)⟩
                          (try clear BK263)
                          (try clear BK267)
                          (try clear HB)
                          generalize ((((((w31.setCell ⟨gb267, 0, none⟩ (.int .i64 ((rd_T136 l0_4 x26_2).f0))).setCell ⟨gb267, 1, none⟩ (.int .i64 ((rd_T136 l0_4 x26_2).f1))).setCell ⟨gb267, 2, none⟩ (.bool ((rd_T136 l0_4 x26_2).f2))).setCell ⟨gb267, 3, none⟩ (.int .i64 ((rd_T136 l0_4 x26_2).f3.f0))).setCell ⟨gb267, 4, none⟩ (.int .i64 ((rd_T136 l0_4 x26_2).f3.f1))).setCell ⟨gb267, 5, none⟩ (.int .i64 ((rd_T136 l0_4 x26_2).f3.f2))) = w34 at n0_ n1_ n2_ ⊢
                          have BK263 := n0_
                          have BK267 := n1_
                          have HB := n2_
                          clear n0_ n1_ n2_
                          have n0_ := Aside0.mk (blk_drew BK263.out)
                          have n1_ := Aside0.mk (blk_drew BK267.out)
                          have n2_ := Aside0.mk (below_drew1 HB.out)
                          clear BK263
                          clear BK267
                          clear HB
                          have BK263 := n0_
                          have BK267 := n1_
                          have HB := n2_
                          clear n0_ n1_ n2_
                          have p269 : 0 ≤ ((ji27) : Int) := of_decide_eq_true Z97
                          have q269 : (ji27) < (l0_4.length : Int) := of_decide_eq_true Z97
                          obtain ⟨ad269, e269, hx269_0, hx269_1, hx269_2, hx269_3, hx269_4, hx269_5⟩ := at_T136 HR0_4.out (ji27) p269 q269
                          have hw269_5 := hx269_5
                          have hw269_4 := hx269_4
                          have hw269_3 := hx269_3
                          have hw269_2 := hx269_2
                          have hw269_1 := hx269_1
                          have hw269_0 := hx269_0
                          obtain rfl : ad266 = ad269 := (by injection e269)
                          replace hx269_0 := (HB.out.cell (World.block_lt_of_cell? w _ hx269_0)).trans hx269_0
                          replace hx269_1 := (HB.out.cell (World.block_lt_of_cell? w _ hx269_1)).trans hx269_1
                          replace hx269_2 := (HB.out.cell (World.block_lt_of_cell? w _ hx269_2)).trans hx269_2
                          replace hx269_3 := (HB.out.cell (World.block_lt_of_cell? w _ hx269_3)).trans hx269_3
                          replace hx269_4 := (HB.out.cell (World.block_lt_of_cell? w _ hx269_4)).trans hx269_4
                          replace hx269_5 := (HB.out.cell (World.block_lt_of_cell? w _ hx269_5)).trans hx269_5
                          replace p269 := eq_true p269
                          replace q269 := eq_true q269
                          refine start_ (n := 20) (S := fun w' => w'.cell? ⟨gb263, 0, none⟩ = some (.int .i64 a0_0) ∧ w'.cell? ⟨gb263, 1, none⟩ = some (.int .i64 a0_1) ∧ w'.cell? ⟨gb263, 2, none⟩ = some (.int .i64 a0_2) ∧ w'.cell? ⟨gb263, 3, none⟩ = some (.int .i64 a0_3) ∧ w'.cell? ⟨gb263, 4, none⟩ = some (.slice (some ad266) l0_4.length c0_4) ∧ w'.cell? ⟨gb267, 0, none⟩ = some (.int .i64 ((rd_T136 l0_4 x26_2).f0)) ∧ w'.cell? ⟨gb267, 1, none⟩ = some (.int .i64 ((rd_T136 l0_4 x26_2).f1)) ∧ w'.cell? ⟨gb267, 2, none⟩ = some (.bool ((rd_T136 l0_4 x26_2).f2)) ∧ w'.cell? ⟨gb267, 3, none⟩ = some (.int .i64 ((rd_T136 l0_4 x26_2).f3.f0)) ∧ w'.cell? ⟨gb267, 4, none⟩ = some (.int .i64 ((rd_T136 l0_4 x26_2).f3.f1)) ∧ w'.cell? ⟨gb267, 5, none⟩ = some (.int .i64 ((rd_T136 l0_4 x26_2).f3.f2)) ∧ w'.cell? (ad266.add (((ji27)).toNat * 6)) = some (.int .i64 ((rd_T136 l0_4 (ji27)).f0)) ∧ w'.cell? ⟨(ad266.add (((ji27)).toNat * 6)).block, (ad266.add (((ji27)).toNat * 6)).off + 1, none⟩ = some (.int .i64 ((rd_T136 l0_4 (ji27)).f1)) ∧ w'.cell? ⟨(ad266.add (((ji27)).toNat * 6)).block, (ad266.add (((ji27)).toNat * 6)).off + 2, none⟩ = some (.bool ((rd_T136 l0_4 (ji27)).f2)) ∧ w'.cell? ⟨(ad266.add (((ji27)).toNat * 6)).block, (ad266.add (((ji27)).toNat * 6)).off + 3, none⟩ = some (.int .i64 ((rd_T136 l0_4 (ji27)).f3.f0)) ∧ w'.cell? ⟨(ad266.add (((ji27)).toNat * 6)).block, (ad266.add (((ji27)).toNat * 6)).off + 4, none⟩ = some (.int .i64 ((rd_T136 l0_4 (ji27)).f3.f1)) ∧ w'.cell? ⟨(ad266.add (((ji27)).toNat * 6)).block, (ad266.add (((ji27)).toNat * 6)).off + 5, none⟩ = some (.int .i64 ((rd_T136 l0_4 (ji27)).f3.f2))) (ds := []) (bz 20 0) (by kernel_rfl) rfl (by kernel_rfl) ⟨(blk_cell BK263.out 0).trans rfl, (blk_cell BK263.out 1).trans rfl, (blk_cell BK263.out 2).trans rfl, (blk_cell BK263.out 3).trans rfl, (blk_cell BK263.out 4).trans rfl, (blk_cell BK267.out 0).trans rfl, (blk_cell BK267.out 1).trans rfl, (blk_cell BK267.out 2).trans rfl, (blk_cell BK267.out 3).trans rfl, (blk_cell BK267.out 4).trans rfl, (blk_cell BK267.out 5).trans rfl, ((HB.out.cell (World.block_lt_of_cell? w _ hw269_0)).trans hw269_0), ((HB.out.cell (World.block_lt_of_cell? w _ hw269_1)).trans hw269_1), ((HB.out.cell (World.block_lt_of_cell? w _ hw269_2)).trans hw269_2), ((HB.out.cell (World.block_lt_of_cell? w _ hw269_3)).trans hw269_3), ((HB.out.cell (World.block_lt_of_cell? w _ hw269_4)).trans hw269_4), ((HB.out.cell (World.block_lt_of_cell? w _ hw269_5)).trans hw269_5)⟩ (fun hHeld => ?_); refine with_tabW impl_FairOk.tab6 impl_FairOk.bits6 (fun HT_ HW_ => ?_)
                          generalize w34.drew = w35 at BK263 BK267 HB hx269_0 hx269_1 hx269_2 hx269_3 hx269_4 hx269_5 hHeld ⊢
                          refine tx_ (i := 0) (N := some 31) (bz 20 1) rfl rfl (take_ofW HT_.out HW_.out (by kernel_rfl)) hHeld Z86 ?_
                          refine tx_ (i := 1) (N := some 32) (bz 20 3) rfl rfl (take_ofW HT_.out HW_.out (by kernel_rfl)) hHeld Z86 ?_
                          refine one_ (i := 2) (N := some 33) (bz 20 7) rfl rfl (one_of HT_.out (by kernel_rfl)) (by decide) (fun K hK => ?_)
                          refine goes_ Try.func155 (by kernel_rfl) rfl #[.agg #[.int .i64 a0_0, .int .i64 a0_1, .int .i64 a0_2, .int .i64 a0_3, .slice (some ad266) l0_4.length c0_4], .agg #[.int .i64 ((rd_T136 l0_4 x26_2).f0), .int .i64 ((rd_T136 l0_4 x26_2).f1), .bool ((rd_T136 l0_4 x26_2).f2), .int .i64 ((rd_T136 l0_4 x26_2).f3.f0), .int .i64 ((rd_T136 l0_4 x26_2).f3.f1), .int .i64 ((rd_T136 l0_4 x26_2).f3.f2)]] (by rfl) rfl rfl Z41 ?_
                          with_reducible refine (impl_Fair_kidOk.calls a0_0 a0_1 a0_2 a0_3 _ _ l0_4 ((rd_T136 l0_4 x26_2).f0) ((rd_T136 l0_4 x26_2).f1) ((rd_T136 l0_4 x26_2).f2) ((rd_T136 l0_4 x26_2).f3.f0) ((rd_T136 l0_4 x26_2).f3.f1) ((rd_T136 l0_4 x26_2).f3.f2) true _ ?side1 ?side2 A24.out).mono ?_
                          (case side1 => repeat (first | exact (Kd.C_below HR0_4.out HB.out) | (with_reducible refine Kd.C_alloc ?_ _) | (with_reducible refine Kd.C_drewN ?_ _) | (with_reducible refine Kd.C_drew ?_)))
                          (case side2 => exact HC0_4.out)
                          rintro e w36 ⟨rfl, hb⟩
                          refine ⟨_, rfl, ?_⟩
                          have n0_ := Aside0.mk (blk_below (g := gb263) (o := .cells #[.int .i64 a0_0, .int .i64 a0_1, .int .i64 a0_2, .int .i64 a0_3, .slice (some ad266) l0_4.length c0_4] 52 (0, 0)) Z77 hb)
                          have n1_ := Aside0.mk (blk_below (g := gb267) (o := .cells #[.int .i64 ((rd_T136 l0_4 x26_2).f0), .int .i64 ((rd_T136 l0_4 x26_2).f1), .bool ((rd_T136 l0_4 x26_2).f2), .int .i64 ((rd_T136 l0_4 x26_2).f3.f0), .int .i64 ((rd_T136 l0_4 x26_2).f3.f1), .int .i64 ((rd_T136 l0_4 x26_2).f3.f2)] 136 (0, 0)) Z78 hb)
                          have n2_ := Aside0.mk (below_step Z16 hb)
                          clear BK263
                          clear BK267
                          clear HB
                          have BK263 := n0_
                          have BK267 := n1_
                          have HB := n2_
                          clear n0_ n1_ n2_
                          (try clear hb)
                          (try clear hb2)
                          (try clear hk)
                          (try clear hi)
                          refine hK.out _ _ ⟨(blk_cell BK263.out 0).trans rfl, (blk_cell BK263.out 1).trans rfl, (blk_cell BK263.out 2).trans rfl, (blk_cell BK263.out 3).trans rfl, (blk_cell BK263.out 4).trans rfl, (blk_cell BK267.out 0).trans rfl, (blk_cell BK267.out 1).trans rfl, (blk_cell BK267.out 2).trans rfl, (blk_cell BK267.out 3).trans rfl, (blk_cell BK267.out 4).trans rfl, (blk_cell BK267.out 5).trans rfl, ((HB.out.cell (World.block_lt_of_cell? w _ hw269_0)).trans hw269_0), ((HB.out.cell (World.block_lt_of_cell? w _ hw269_1)).trans hw269_1), ((HB.out.cell (World.block_lt_of_cell? w _ hw269_2)).trans hw269_2), ((HB.out.cell (World.block_lt_of_cell? w _ hw269_3)).trans hw269_3), ((HB.out.cell (World.block_lt_of_cell? w _ hw269_4)).trans hw269_4), ((HB.out.cell (World.block_lt_of_cell? w _ hw269_5)).trans hw269_5)⟩ (fun hHeld => ?_)
                          clear hK K
                          refine nx_ (N := some 33) ?_
                          refine px_ (i := 3) (N := some 34) (bz 20 15) (any_of HT_.out (by kernel_rfl)) ?_
                          refine px_ (i := 4) (N := some 35) (bz 20 31) (any_of HT_.out (by kernel_rfl)) ?_
                          refine px_ (i := 5) (N := some 36) (bz 20 63) (any_of HT_.out (by kernel_rfl)) ?_
                          refine px_ (i := 6) (N := some 37) (bz 20 127) (any_of HT_.out (by kernel_rfl)) ?_
                          refine px_ (i := 7) (N := some 38) (bz 20 255) (any_of HT_.out (by kernel_rfl)) ?_
                          refine px_ (i := 8) (N := some 39) (bz 20 511) (any_of HT_.out (by kernel_rfl)) ?_
                          refine px_ (i := 10) (N := some 41) (bz 20 1535) (any_of HT_.out (by kernel_rfl)) ?_
                          refine px_ (i := 11) (N := some 42) (bz 20 3583) (any_of HT_.out (by kernel_rfl)) ?_
                          refine px_ (i := 15) (N := some 46) (bz 20 36351) (any_of HT_.out (by kernel_rfl)) ?_
                          refine tx_ (i := 9) (N := some 40) (bz 20 36863) rfl rfl (take_ofW HT_.out HW_.out (by kernel_rfl)) hHeld Z86 ?_
                          refine px_ (i := 12) (N := some 43) (bz 20 40959) (any_of HT_.out (by kernel_rfl)) ?_
                          refine px_ (i := 13) (N := some 44) (bz 20 49151) (any_of HT_.out (by kernel_rfl)) ?_
                          refine tx_ (i := 14) (N := some 45) (bz 20 65535) rfl rfl (take_ofW HT_.out HW_.out (by kernel_rfl)) hHeld Z86 ?_
                          refine tx_ (i := 16) (N := some 47) (bz 20 131071) rfl rfl (take_ofW HT_.out HW_.out (by kernel_rfl)) hHeld Z86 ?_
                          refine px_ (i := 17) (N := some 48) (bz 20 262143) (any_of HT_.out (by kernel_rfl)) ?_
                          refine px_ (i := 18) (N := some 49) (bz 20 524287) (any_of HT_.out (by kernel_rfl)) ?_
                          refine px_ (i := 19) (N := some 50) (bz 20 1048575) (any_of HT_.out (by kernel_rfl)) ?_
                          refine done_ (done_of HT_.out (by kernel_rfl)) ?_
                          go_upto_if 50 with (fail)
                          have H := HU30.out
                          clear HU30
                          by_cases c37 : ((rd_T136 l0_4 (ji27)).f0) ≥ ((rd_T136 l0_4 x26_2).f0)
                          · rw [if_pos c37] at H
                            have c37b0 : decide (((rd_T136 l0_4 x26_2).f0) ≤ ((rd_T136 l0_4 (ji27)).f0)) = true := decide_eq_true c37
                            clear c37
                            (first | rw [c37b0] | (simp only [i64_w, i32_w]; rw [c37b0]) | (have cz_ := c37b0; simp only [bne, gt_iff_lt, Int.natCast_pos] at cz_; first | rw [cz_] | (simp only [i64_w, i32_w]; rw [cz_])) | skip)
                            obtain rfl := Option.some.inj H
                            go_wp2
                            go_ret
                            exact ⟨by first | rfl | (simp [errW_none, errW_some] <;> rfl) | (simp only [← hji27]; first | rfl | (simp [errW_none, errW_some] <;> rfl)) | (simp [*, errW_none, errW_some] <;> rfl), by repeat (first | (with_reducible first | exact HB.out | apply below_alloc | apply pw_below_drewN | apply below_drew1 | refine below_set ?_ GE263.out | refine below_set ?_ GE267.out) | exact HB.out)⟩
                          · rw [if_neg c37] at H
                            have c37b0 : decide (((rd_T136 l0_4 x26_2).f0) ≤ ((rd_T136 l0_4 (ji27)).f0)) = false := decide_eq_false c37
                            clear c37
                            (first | rw [c37b0] | (simp only [i64_w, i32_w]; rw [c37b0]) | (have cz_ := c37b0; simp only [bne, gt_iff_lt, Int.natCast_pos] at cz_; first | rw [cz_] | (simp only [i64_w, i32_w]; rw [cz_])) | skip)
                            have H' := Aside0.mk H
                            clear H
                            go_wp2
                            go_roundg k2
                            case measure => have := HJ1.out; have := HK2.out; omega
                            case rel => exact ⟨(wrap64 (x26_2 + 1)), Z98, H', ⟨by have := HJ1.out; have := HK2.out; omega⟩, ⟨by (with_reducible repeat (first | refine blk_drewN ?_ _ | refine blk_drew ?_ | refine blk_alloc ?_ _)); exact BK263.out⟩, ⟨by repeat (first | (with_reducible first | exact HB.out | apply below_alloc | apply pw_below_drewN | apply below_drew1 | refine below_set ?_ GE263.out | refine below_set ?_ GE267.out) | exact HB.out)⟩⟩
                        · rw [if_neg c29] at H
                          exact absurd H (by simp)
                      · rw [if_neg c28] at H
                        exact absurd H (by simp)
                    · rw [if_neg c26] at H
                      have c26b0 : decide (0 < x26_2) = false := decide_eq_false c26
                      clear c26
                      have H' := Aside0.mk H
                      clear H
                      have p266 : 0 ≤ (x26_2 : Int) := of_decide_eq_true Z97
                      have q266 : x26_2 < (l0_4.length : Int) := of_decide_eq_true Z97
                      obtain ⟨ad266, e266, hx266_0, hx266_1, hx266_2, hx266_3, hx266_4, hx266_5⟩ := at_T136 HR0_4.out x26_2 p266 q266
                      cases e266
                      replace hx266_0 := (HB.out.cell (World.block_lt_of_cell? w _ hx266_0)).trans hx266_0
                      replace hx266_1 := (HB.out.cell (World.block_lt_of_cell? w _ hx266_1)).trans hx266_1
                      replace hx266_2 := (HB.out.cell (World.block_lt_of_cell? w _ hx266_2)).trans hx266_2
                      replace hx266_3 := (HB.out.cell (World.block_lt_of_cell? w _ hx266_3)).trans hx266_3
                      replace hx266_4 := (HB.out.cell (World.block_lt_of_cell? w _ hx266_4)).trans hx266_4
                      replace hx266_5 := (HB.out.cell (World.block_lt_of_cell? w _ hx266_5)).trans hx266_5
                      replace p266 := eq_true p266
                      replace q266 := eq_true q266
                      try go_wp2_with (first | ((with_reducible refine gate_dst (N := 4) rfl ?_); (try (refine gate_guard (by rfl) ?_; dsimp only)); refine box_event ?hg (N := 4) ?hd (cs := #[.int .i64 0, .int .i64 0, .bool false, .int .i64 0, .int .i64 0, .int .i64 0]) (t := 136) ?hr ?_; (case hd => rfl); (case hg => rfl); (case hr => first | (go_simp; done) | (go_simp; rfl)); intro gb267 hg w38 hbox hb; have n0_ := Aside0.mk (blk_below (g := gb263) (o := .cells #[.int .i64 a0_0, .int .i64 a0_1, .int .i64 a0_2, .int .i64 a0_3, .slice (some ad266) l0_4.length c0_4] 52 (0, 0)) Z77 hb); have n1_ := Aside0.mk (below_step Z37 hb); have n2_ := Aside0.mk (hbox); have n3_ := Aside0.mk ((by rw [hg]; exact (below_size Z37) : w.heap.size ≤ gb267)); have n4_ := Aside0.mk ((by rw [hg]; exact (below_size Z37) : w.heap.size ≤ gb267)); have n5_ := Aside0.mk ((by rw [hg]; exact Nat.ne_of_lt (blk_lt (g := gb263) (o := .cells #[.int .i64 a0_0, .int .i64 a0_1, .int .i64 a0_2, .int .i64 a0_3, .slice (some ad266) l0_4.length c0_4] 52 (0, 0)) Z77) : gb263 ≠ gb267)); have n6_ := Aside0.mk ((by rw [hg]; exact Nat.ne_of_gt (blk_lt (g := gb263) (o := .cells #[.int .i64 a0_0, .int .i64 a0_1, .int .i64 a0_2, .int .i64 a0_3, .slice (some ad266) l0_4.length c0_4] 52 (0, 0)) Z77) : gb267 ≠ gb263)); clear BK263; clear HB; have BK263 := n0_; have HB := n1_; have BK267 := n2_; have GW267 := n3_; have GE267 := n4_; have NB263_267 := n5_; have NB267_263 := n6_; clear n0_ n1_ n2_ n3_ n4_ n5_ n6_; clear hb hbox hg; (try have hnb39 := NB267_263.out); (try have hnc39 := NB263_267.out); have hcz40_0 : w38.cell? ⟨gb267, 0, none⟩ = some (.int .i64 0) := (blk_cell BK267.out 0).trans rfl; have hcz40_1 : w38.cell? ⟨gb267, 1, none⟩ = some (.int .i64 0) := (blk_cell BK267.out 1).trans rfl; have hcz40_2 : w38.cell? ⟨gb267, 2, none⟩ = some (.bool false) := (blk_cell BK267.out 2).trans rfl; have hcz40_3 : w38.cell? ⟨gb267, 3, none⟩ = some (.int .i64 0) := (blk_cell BK267.out 3).trans rfl; have hcz40_4 : w38.cell? ⟨gb267, 4, none⟩ = some (.int .i64 0) := (blk_cell BK267.out 4).trans rfl; have hcz40_5 : w38.cell? ⟨gb267, 5, none⟩ = some (.int .i64 0) := (blk_cell BK267.out 5).trans rfl; have hfz40_0 := blk_frozen BK267.out 0; have hfz40_1 := blk_frozen BK267.out 1; have hfz40_2 := blk_frozen BK267.out 2; have hfz40_3 := blk_frozen BK267.out 3; have hfz40_4 := blk_frozen BK267.out 4; have hfz40_5 := blk_frozen BK267.out 5))
                      have n0_ : Aside0 (((((((w38.setCell ⟨gb267, 0, none⟩ (.int .i64 ((rd_T136 l0_4 x26_2).f0))).setCell ⟨gb267, 1, none⟩ (.int .i64 ((rd_T136 l0_4 x26_2).f1))).setCell ⟨gb267, 2, none⟩ (.bool ((rd_T136 l0_4 x26_2).f2))).setCell ⟨gb267, 3, none⟩ (.int .i64 ((rd_T136 l0_4 x26_2).f3.f0))).setCell ⟨gb267, 4, none⟩ (.int .i64 ((rd_T136 l0_4 x26_2).f3.f1))).setCell ⟨gb267, 5, none⟩ (.int .i64 ((rd_T136 l0_4 x26_2).f3.f2))).heap[gb263]? = some (.cells #[.int .i64 a0_0, .int .i64 a0_1, .int .i64 a0_2, .int .i64 a0_3, .slice (some ad266) l0_4.length c0_4] 52 (0, 0))) := ⟨by (with_reducible repeat (first | refine blk_drewN ?_ _ | refine blk_drew ?_ | refine blk_alloc ?_ _)); refine blk_far ?_ NB263_267.out _; (with_reducible repeat (first | refine blk_drewN ?_ _ | refine blk_drew ?_ | refine blk_alloc ?_ _)); refine blk_far ?_ NB263_267.out _; (with_reducible repeat (first | refine blk_drewN ?_ _ | refine blk_drew ?_ | refine blk_alloc ?_ _)); refine blk_far ?_ NB263_267.out _; (with_reducible repeat (first | refine blk_drewN ?_ _ | refine blk_drew ?_ | refine blk_alloc ?_ _)); refine blk_far ?_ NB263_267.out _; (with_reducible repeat (first | refine blk_drewN ?_ _ | refine blk_drew ?_ | refine blk_alloc ?_ _)); refine blk_far ?_ NB263_267.out _; (with_reducible repeat (first | refine blk_drewN ?_ _ | refine blk_drew ?_ | refine blk_alloc ?_ _)); refine blk_far ?_ NB263_267.out _; (with_reducible repeat (first | refine blk_drewN ?_ _ | refine blk_drew ?_ | refine blk_alloc ?_ _)); exact BK263.out⟩
                      have n1_ : Aside0 (((((((w38.setCell ⟨gb267, 0, none⟩ (.int .i64 ((rd_T136 l0_4 x26_2).f0))).setCell ⟨gb267, 1, none⟩ (.int .i64 ((rd_T136 l0_4 x26_2).f1))).setCell ⟨gb267, 2, none⟩ (.bool ((rd_T136 l0_4 x26_2).f2))).setCell ⟨gb267, 3, none⟩ (.int .i64 ((rd_T136 l0_4 x26_2).f3.f0))).setCell ⟨gb267, 4, none⟩ (.int .i64 ((rd_T136 l0_4 x26_2).f3.f1))).setCell ⟨gb267, 5, none⟩ (.int .i64 ((rd_T136 l0_4 x26_2).f3.f2))).heap[gb267]? = some (.cells #[.int .i64 ((rd_T136 l0_4 x26_2).f0), .int .i64 ((rd_T136 l0_4 x26_2).f1), .bool ((rd_T136 l0_4 x26_2).f2), .int .i64 ((rd_T136 l0_4 x26_2).f3.f0), .int .i64 ((rd_T136 l0_4 x26_2).f3.f1), .int .i64 ((rd_T136 l0_4 x26_2).f3.f2)] 136 (0, 0))) := ⟨by (with_reducible repeat (first | refine blk_drewN ?_ _ | refine blk_drew ?_ | refine blk_alloc ?_ _)); refine blk_put (cs := #[.int .i64 ((rd_T136 l0_4 x26_2).f0), .int .i64 ((rd_T136 l0_4 x26_2).f1), .bool ((rd_T136 l0_4 x26_2).f2), .int .i64 ((rd_T136 l0_4 x26_2).f3.f0), .int .i64 ((rd_T136 l0_4 x26_2).f3.f1), .int .i64 0]) ?_ 5 _ rfl; (with_reducible repeat (first | refine blk_drewN ?_ _ | refine blk_drew ?_ | refine blk_alloc ?_ _)); refine blk_put (cs := #[.int .i64 ((rd_T136 l0_4 x26_2).f0), .int .i64 ((rd_T136 l0_4 x26_2).f1), .bool ((rd_T136 l0_4 x26_2).f2), .int .i64 ((rd_T136 l0_4 x26_2).f3.f0), .int .i64 0, .int .i64 0]) ?_ 4 _ rfl; (with_reducible repeat (first | refine blk_drewN ?_ _ | refine blk_drew ?_ | refine blk_alloc ?_ _)); refine blk_put (cs := #[.int .i64 ((rd_T136 l0_4 x26_2).f0), .int .i64 ((rd_T136 l0_4 x26_2).f1), .bool ((rd_T136 l0_4 x26_2).f2), .int .i64 0, .int .i64 0, .int .i64 0]) ?_ 3 _ rfl; (with_reducible repeat (first | refine blk_drewN ?_ _ | refine blk_drew ?_ | refine blk_alloc ?_ _)); refine blk_put (cs := #[.int .i64 ((rd_T136 l0_4 x26_2).f0), .int .i64 ((rd_T136 l0_4 x26_2).f1), .bool false, .int .i64 0, .int .i64 0, .int .i64 0]) ?_ 2 _ rfl; (with_reducible repeat (first | refine blk_drewN ?_ _ | refine blk_drew ?_ | refine blk_alloc ?_ _)); refine blk_put (cs := #[.int .i64 ((rd_T136 l0_4 x26_2).f0), .int .i64 0, .bool false, .int .i64 0, .int .i64 0, .int .i64 0]) ?_ 1 _ rfl; (with_reducible repeat (first | refine blk_drewN ?_ _ | refine blk_drew ?_ | refine blk_alloc ?_ _)); refine blk_put (cs := #[.int .i64 0, .int .i64 0, .bool false, .int .i64 0, .int .i64 0, .int .i64 0]) ?_ 0 _ rfl; (with_reducible repeat (first | refine blk_drewN ?_ _ | refine blk_drew ?_ | refine blk_alloc ?_ _)); exact BK267.out⟩
                      have n2_ : Aside0 (Below w.heap.size w ((((((w38.setCell ⟨gb267, 0, none⟩ (.int .i64 ((rd_T136 l0_4 x26_2).f0))).setCell ⟨gb267, 1, none⟩ (.int .i64 ((rd_T136 l0_4 x26_2).f1))).setCell ⟨gb267, 2, none⟩ (.bool ((rd_T136 l0_4 x26_2).f2))).setCell ⟨gb267, 3, none⟩ (.int .i64 ((rd_T136 l0_4 x26_2).f3.f0))).setCell ⟨gb267, 4, none⟩ (.int .i64 ((rd_T136 l0_4 x26_2).f3.f1))).setCell ⟨gb267, 5, none⟩ (.int .i64 ((rd_T136 l0_4 x26_2).f3.f2)))) := ⟨by repeat (first | (with_reducible first | exact HB.out | apply below_alloc | apply pw_below_drewN | apply below_drew1 | refine below_set ?_ GE263.out | refine below_set ?_ GE267.out) | exact HB.out)⟩
                      (try clear BK263)
                      (try clear BK267)
                      (try clear HB)
                      generalize ((((((w38.setCell ⟨gb267, 0, none⟩ (.int .i64 ((rd_T136 l0_4 x26_2).f0))).setCell ⟨gb267, 1, none⟩ (.int .i64 ((rd_T136 l0_4 x26_2).f1))).setCell ⟨gb267, 2, none⟩ (.bool ((rd_T136 l0_4 x26_2).f2))).setCell ⟨gb267, 3, none⟩ (.int .i64 ((rd_T136 l0_4 x26_2).f3.f0))).setCell ⟨gb267, 4, none⟩ (.int .i64 ((rd_T136 l0_4 x26_2).f3.f1))).setCell ⟨gb267, 5, none⟩ (.int .i64 ((rd_T136 l0_4 x26_2).f3.f2))) = w41 at n0_ n1_ n2_ ⊢
                      have BK263 := n0_
                      have BK267 := n1_
                      have HB := n2_
                      clear n0_ n1_ n2_
                      have n0_ := Aside0.mk (blk_drew BK263.out)
                      have n1_ := Aside0.mk (blk_drew BK267.out)
                      have n2_ := Aside0.mk (below_drew1 HB.out)
                      clear BK263
                      clear BK267
                      clear HB
                      have BK263 := n0_
                      have BK267 := n1_
                      have HB := n2_
                      clear n0_ n1_ n2_
                      refine start_ (n := 20) (S := fun w' => w'.cell? ⟨gb263, 0, none⟩ = some (.int .i64 a0_0) ∧ w'.cell? ⟨gb263, 1, none⟩ = some (.int .i64 a0_1) ∧ w'.cell? ⟨gb263, 2, none⟩ = some (.int .i64 a0_2) ∧ w'.cell? ⟨gb263, 3, none⟩ = some (.int .i64 a0_3) ∧ w'.cell? ⟨gb263, 4, none⟩ = some (.slice (some ad266) l0_4.length c0_4) ∧ w'.cell? ⟨gb267, 0, none⟩ = some (.int .i64 ((rd_T136 l0_4 x26_2).f0)) ∧ w'.cell? ⟨gb267, 1, none⟩ = some (.int .i64 ((rd_T136 l0_4 x26_2).f1)) ∧ w'.cell? ⟨gb267, 2, none⟩ = some (.bool ((rd_T136 l0_4 x26_2).f2)) ∧ w'.cell? ⟨gb267, 3, none⟩ = some (.int .i64 ((rd_T136 l0_4 x26_2).f3.f0)) ∧ w'.cell? ⟨gb267, 4, none⟩ = some (.int .i64 ((rd_T136 l0_4 x26_2).f3.f1)) ∧ w'.cell? ⟨gb267, 5, none⟩ = some (.int .i64 ((rd_T136 l0_4 x26_2).f3.f2))) (ds := []) (bz 20 0) (by kernel_rfl) rfl (by kernel_rfl) ⟨(blk_cell BK263.out 0).trans rfl, (blk_cell BK263.out 1).trans rfl, (blk_cell BK263.out 2).trans rfl, (blk_cell BK263.out 3).trans rfl, (blk_cell BK263.out 4).trans rfl, (blk_cell BK267.out 0).trans rfl, (blk_cell BK267.out 1).trans rfl, (blk_cell BK267.out 2).trans rfl, (blk_cell BK267.out 3).trans rfl, (blk_cell BK267.out 4).trans rfl, (blk_cell BK267.out 5).trans rfl⟩ (fun hHeld => ?_); refine with_tabW impl_FairOk.tab6 impl_FairOk.bits6 (fun HT_ HW_ => ?_)
                      generalize w41.drew = w42 at BK263 BK267 HB hHeld ⊢
                      refine tx_ (i := 0) (N := some 31) (bz 20 1) rfl rfl (take_ofW HT_.out HW_.out (by kernel_rfl)) hHeld Z94 ?_
                      refine tx_ (i := 1) (N := some 32) (bz 20 3) rfl rfl (take_ofW HT_.out HW_.out (by kernel_rfl)) hHeld Z94 ?_
                      refine one_ (i := 2) (N := some 33) (bz 20 7) rfl rfl (one_of HT_.out (by kernel_rfl)) (by decide) (fun K hK => ?_)
                      refine goes_ Try.func155 (by kernel_rfl) rfl #[.agg #[.int .i64 a0_0, .int .i64 a0_1, .int .i64 a0_2, .int .i64 a0_3, .slice (some ad266) l0_4.length c0_4], .agg #[.int .i64 ((rd_T136 l0_4 x26_2).f0), .int .i64 ((rd_T136 l0_4 x26_2).f1), .bool ((rd_T136 l0_4 x26_2).f2), .int .i64 ((rd_T136 l0_4 x26_2).f3.f0), .int .i64 ((rd_T136 l0_4 x26_2).f3.f1), .int .i64 ((rd_T136 l0_4 x26_2).f3.f2)]] (by rfl) rfl rfl Z41 ?_
                      with_reducible refine (impl_Fair_kidOk.calls a0_0 a0_1 a0_2 a0_3 _ _ l0_4 ((rd_T136 l0_4 x26_2).f0) ((rd_T136 l0_4 x26_2).f1) ((rd_T136 l0_4 x26_2).f2) ((rd_T136 l0_4 x26_2).f3.f0) ((rd_T136 l0_4 x26_2).f3.f1) ((rd_T136 l0_4 x26_2).f3.f2) true _ ?side1 ?side2 A24.out).mono ?_
                      (case side1 => repeat (first | exact (Kd.C_below HR0_4.out HB.out) | (with_reducible refine Kd.C_alloc ?_ _) | (with_reducible refine Kd.C_drewN ?_ _) | (with_reducible refine Kd.C_drew ?_)))
                      (case side2 => exact HC0_4.out)
                      rintro e w43 ⟨rfl, hb⟩
                      refine ⟨_, rfl, ?_⟩
                      have n0_ := Aside0.mk (blk_below (g := gb263) (o := .cells #[.int .i64 a0_0, .int .i64 a0_1, .int .i64 a0_2, .int .i64 a0_3, .slice (some ad266) l0_4.length c0_4] 52 (0, 0)) Z77 hb)
                      have n1_ := Aside0.mk (blk_below (g := gb267) (o := .cells #[.int .i64 ((rd_T136 l0_4 x26_2).f0), .int .i64 ((rd_T136 l0_4 x26_2).f1), .bool ((rd_T136 l0_4 x26_2).f2), .int .i64 ((rd_T136 l0_4 x26_2).f3.f0), .int .i64 ((rd_T136 l0_4 x26_2).f3.f1), .int .i64 ((rd_T136 l0_4 x26_2).f3.f2)] 136 (0, 0)) Z78 hb)
                      have n2_ := Aside0.mk (below_step Z16 hb)
                      clear BK263
                      clear BK267
                      clear HB
                      have BK263 := n0_
                      have BK267 := n1_
                      have HB := n2_
                      clear n0_ n1_ n2_
                      (try clear hb)
                      (try clear hb2)
                      (try clear hk)
                      (try clear hi)
                      refine hK.out _ _ ⟨(blk_cell BK263.out 0).trans rfl, (blk_cell BK263.out 1).trans rfl, (blk_cell BK263.out 2).trans rfl, (blk_cell BK263.out 3).trans rfl, (blk_cell BK263.out 4).trans rfl, (blk_cell BK267.out 0).trans rfl, (blk_cell BK267.out 1).trans rfl, (blk_cell BK267.out 2).trans rfl, (blk_cell BK267.out 3).trans rfl, (blk_cell BK267.out 4).trans rfl, (blk_cell BK267.out 5).trans rfl⟩ (fun hHeld => ?_)
                      clear hK K
                      refine nx_ (N := some 33) ?_
                      refine px_ (i := 3) (N := some 34) (bz 20 15) (any_of HT_.out (by kernel_rfl)) ?_
                      refine px_ (i := 4) (N := some 35) (bz 20 31) (any_of HT_.out (by kernel_rfl)) ?_
                      refine px_ (i := 5) (N := some 36) (bz 20 63) (any_of HT_.out (by kernel_rfl)) ?_
                      refine px_ (i := 6) (N := some 37) (bz 20 127) (any_of HT_.out (by kernel_rfl)) ?_
                      refine px_ (i := 7) (N := some 38) (bz 20 255) (any_of HT_.out (by kernel_rfl)) ?_
                      refine ox_ (i := 8) (N := some 39) (bz 20 511) (any_of HT_.out (by kernel_rfl)) ?_
                      refine ox_ (i := 9) (N := some 40) (bz 20 1023) (any_of HT_.out (by kernel_rfl)) ?_
                      refine ox_ (i := 10) (N := some 41) (bz 20 2047) (any_of HT_.out (by kernel_rfl)) ?_
                      refine ox_ (i := 11) (N := some 42) (bz 20 4095) (any_of HT_.out (by kernel_rfl)) ?_
                      refine ox_ (i := 12) (N := some 43) (bz 20 8191) (any_of HT_.out (by kernel_rfl)) ?_
                      refine ox_ (i := 13) (N := some 44) (bz 20 16383) (any_of HT_.out (by kernel_rfl)) ?_
                      refine ox_ (i := 14) (N := some 45) (bz 20 32767) (any_of HT_.out (by kernel_rfl)) ?_
                      refine ox_ (i := 15) (N := some 46) (bz 20 65535) (any_of HT_.out (by kernel_rfl)) ?_
                      refine ox_ (i := 16) (N := some 47) (bz 20 131071) (any_of HT_.out (by kernel_rfl)) ?_
                      refine ox_ (i := 17) (N := some 48) (bz 20 262143) (any_of HT_.out (by kernel_rfl)) ?_
                      refine px_ (i := 18) (N := some 49) (bz 20 524287) (any_of HT_.out (by kernel_rfl)) ?_
                      refine px_ (i := 19) (N := some 50) (bz 20 1048575) (any_of HT_.out (by kernel_rfl)) ?_
                      refine done_ (done_of HT_.out (by kernel_rfl)) ?_
                      try go_wp2
                      go_roundg k2
                      case measure => have := HJ1.out; have := HK2.out; omega
                      case rel => exact ⟨(wrap64 (x26_2 + 1)), Z98, H', ⟨by have := HJ1.out; have := HK2.out; omega⟩, ⟨by (with_reducible repeat (first | refine blk_drewN ?_ _ | refine blk_drew ?_ | refine blk_alloc ?_ _)); exact BK263.out⟩, ⟨by repeat (first | (with_reducible first | exact HB.out | apply below_alloc | apply pw_below_drewN | apply below_drew1 | refine below_set ?_ GE263.out | refine below_set ?_ GE267.out) | exact HB.out)⟩⟩
                  · replace c25 := Bool.eq_false_iff.mpr c25
                    subst c25
                    have H1 : (some false) = some r := by rw [if_neg (show ¬ (false = true) by decide)] at H; exact H
                    clear H
                    have H := H1
                    clear H1
                    obtain rfl := Option.some.inj H
                    have p266 : 0 ≤ (x26_2 : Int) := of_decide_eq_true Z97
                    have q266 : x26_2 < (l0_4.length : Int) := of_decide_eq_true Z97
                    obtain ⟨ad266, e266, hx266_0, hx266_1, hx266_2, hx266_3, hx266_4, hx266_5⟩ := at_T136 HR0_4.out x26_2 p266 q266
                    cases e266
                    replace hx266_0 := (HB.out.cell (World.block_lt_of_cell? w _ hx266_0)).trans hx266_0
                    replace hx266_1 := (HB.out.cell (World.block_lt_of_cell? w _ hx266_1)).trans hx266_1
                    replace hx266_2 := (HB.out.cell (World.block_lt_of_cell? w _ hx266_2)).trans hx266_2
                    replace hx266_3 := (HB.out.cell (World.block_lt_of_cell? w _ hx266_3)).trans hx266_3
                    replace hx266_4 := (HB.out.cell (World.block_lt_of_cell? w _ hx266_4)).trans hx266_4
                    replace hx266_5 := (HB.out.cell (World.block_lt_of_cell? w _ hx266_5)).trans hx266_5
                    replace p266 := eq_true p266
                    replace q266 := eq_true q266
                    try go_wp2_with (first | ((with_reducible refine gate_dst (N := 4) rfl ?_); (try (refine gate_guard (by rfl) ?_; dsimp only)); refine box_event ?hg (N := 4) ?hd (cs := #[.int .i64 0, .int .i64 0, .bool false, .int .i64 0, .int .i64 0, .int .i64 0]) (t := 136) ?hr ?_; (case hd => rfl); (case hg => rfl); (case hr => first | (go_simp; done) | (go_simp; rfl)); intro gb267 hg w44 hbox hb; have n0_ := Aside0.mk (blk_below (g := gb263) (o := .cells #[.int .i64 a0_0, .int .i64 a0_1, .int .i64 a0_2, .int .i64 a0_3, .slice (some ad266) l0_4.length c0_4] 52 (0, 0)) Z77 hb); have n1_ := Aside0.mk (below_step Z37 hb); have n2_ := Aside0.mk (hbox); have n3_ := Aside0.mk ((by rw [hg]; exact (below_size Z37) : w.heap.size ≤ gb267)); have n4_ := Aside0.mk ((by rw [hg]; exact (below_size Z37) : w.heap.size ≤ gb267)); have n5_ := Aside0.mk ((by rw [hg]; exact Nat.ne_of_lt (blk_lt (g := gb263) (o := .cells #[.int .i64 a0_0, .int .i64 a0_1, .int .i64 a0_2, .int .i64 a0_3, .slice (some ad266) l0_4.length c0_4] 52 (0, 0)) Z77) : gb263 ≠ gb267)); have n6_ := Aside0.mk ((by rw [hg]; exact Nat.ne_of_gt (blk_lt (g := gb263) (o := .cells #[.int .i64 a0_0, .int .i64 a0_1, .int .i64 a0_2, .int .i64 a0_3, .slice (some ad266) l0_4.length c0_4] 52 (0, 0)) Z77) : gb267 ≠ gb263)); clear BK263; clear HB; have BK263 := n0_; have HB := n1_; have BK267 := n2_; have GW267 := n3_; have GE267 := n4_; have NB263_267 := n5_; have NB267_263 := n6_; clear n0_ n1_ n2_ n3_ n4_ n5_ n6_; clear hb hbox hg; (try have hnb45 := NB267_263.out); (try have hnc45 := NB263_267.out); have hcz46_0 : w44.cell? ⟨gb267, 0, none⟩ = some (.int .i64 0) := (blk_cell BK267.out 0).trans rfl; have hcz46_1 : w44.cell? ⟨gb267, 1, none⟩ = some (.int .i64 0) := (blk_cell BK267.out 1).trans rfl; have hcz46_2 : w44.cell? ⟨gb267, 2, none⟩ = some (.bool false) := (blk_cell BK267.out 2).trans rfl; have hcz46_3 : w44.cell? ⟨gb267, 3, none⟩ = some (.int .i64 0) := (blk_cell BK267.out 3).trans rfl; have hcz46_4 : w44.cell? ⟨gb267, 4, none⟩ = some (.int .i64 0) := (blk_cell BK267.out 4).trans rfl; have hcz46_5 : w44.cell? ⟨gb267, 5, none⟩ = some (.int .i64 0) := (blk_cell BK267.out 5).trans rfl; have hfz46_0 := blk_frozen BK267.out 0; have hfz46_1 := blk_frozen BK267.out 1; have hfz46_2 := blk_frozen BK267.out 2; have hfz46_3 := blk_frozen BK267.out 3; have hfz46_4 := blk_frozen BK267.out 4; have hfz46_5 := blk_frozen BK267.out 5))
                    have n0_ : Aside0 (((((((w44.setCell ⟨gb267, 0, none⟩ (.int .i64 ((rd_T136 l0_4 x26_2).f0))).setCell ⟨gb267, 1, none⟩ (.int .i64 ((rd_T136 l0_4 x26_2).f1))).setCell ⟨gb267, 2, none⟩ (.bool ((rd_T136 l0_4 x26_2).f2))).setCell ⟨gb267, 3, none⟩ (.int .i64 ((rd_T136 l0_4 x26_2).f3.f0))).setCell ⟨gb267, 4, none⟩ (.int .i64 ((rd_T136 l0_4 x26_2).f3.f1))).setCell ⟨gb267, 5, none⟩ (.int .i64 ((rd_T136 l0_4 x26_2).f3.f2))).heap[gb263]? = some (.cells #[.int .i64 a0_0, .int .i64 a0_1, .int .i64 a0_2, .int .i64 a0_3, .slice (some ad266) l0_4.length c0_4] 52 (0, 0))) := ⟨by (with_reducible repeat (first | refine blk_drewN ?_ _ | refine blk_drew ?_ | refine blk_alloc ?_ _)); refine blk_far ?_ NB263_267.out _; (with_reducible repeat (first | refine blk_drewN ?_ _ | refine blk_drew ?_ | refine blk_alloc ?_ _)); refine blk_far ?_ NB263_267.out _; (with_reducible repeat (first | refine blk_drewN ?_ _ | refine blk_drew ?_ | refine blk_alloc ?_ _)); refine blk_far ?_ NB263_267.out _; (with_reducible repeat (first | refine blk_drewN ?_ _ | refine blk_drew ?_ | refine blk_alloc ?_ _)); refine blk_far ?_ NB263_267.out _; (with_reducible repeat (first | refine blk_drewN ?_ _ | refine blk_drew ?_ | refine blk_alloc ?_ _)); refine blk_far ?_ NB263_267.out _; (with_reducible repeat (first | refine blk_drewN ?_ _ | refine blk_drew ?_ | refine blk_alloc ?_ _)); refine blk_far ?_ NB263_267.out _; (with_reducible repeat (first | refine blk_drewN ?_ _ | refine blk_drew ?_ | refine blk_alloc ?_ _)); exact BK263.out⟩
                    have n1_ : Aside0 (((((((w44.setCell ⟨gb267, 0, none⟩ (.int .i64 ((rd_T136 l0_4 x26_2).f0))).setCell ⟨gb267, 1, none⟩ (.int .i64 ((rd_T136 l0_4 x26_2).f1))).setCell ⟨gb267, 2, none⟩ (.bool ((rd_T136 l0_4 x26_2).f2))).setCell ⟨gb267, 3, none⟩ (.int .i64 ((rd_T136 l0_4 x26_2).f3.f0))).setCell ⟨gb267, 4, none⟩ (.int .i64 ((rd_T136 l0_4 x26_2).f3.f1))).setCell ⟨gb267, 5, none⟩ (.int .i64 ((rd_T136 l0_4 x26_2).f3.f2))).heap[gb267]? = some (.cells #[.int .i64 ((rd_T136 l0_4 x26_2).f0), .int .i64 ((rd_T136 l0_4 x26_2).f1), .bool ((rd_T136 l0_4 x26_2).f2), .int .i64 ((rd_T136 l0_4 x26_2).f3.f0), .int .i64 ((rd_T136 l0_4 x26_2).f3.f1), .int .i64 ((rd_T136 l0_4 x26_2).f3.f2)] 136 (0, 0))) := ⟨by (with_reducible repeat (first | refine blk_drewN ?_ _ | refine blk_drew ?_ | refine blk_alloc ?_ _)); refine blk_put (cs := #[.int .i64 ((rd_T136 l0_4 x26_2).f0), .int .i64 ((rd_T136 l0_4 x26_2).f1), .bool ((rd_T136 l0_4 x26_2).f2), .int .i64 ((rd_T136 l0_4 x26_2).f3.f0), .int .i64 ((rd_T136 l0_4 x26_2).f3.f1), .int .i64 0]) ?_ 5 _ rfl; (with_reducible repeat (first | refine blk_drewN ?_ _ | refine blk_drew ?_ | refine blk_alloc ?_ _)); refine blk_put (cs := #[.int .i64 ((rd_T136 l0_4 x26_2).f0), .int .i64 ((rd_T136 l0_4 x26_2).f1), .bool ((rd_T136 l0_4 x26_2).f2), .int .i64 ((rd_T136 l0_4 x26_2).f3.f0), .int .i64 0, .int .i64 0]) ?_ 4 _ rfl; (with_reducible repeat (first | refine blk_drewN ?_ _ | refine blk_drew ?_ | refine blk_alloc ?_ _)); refine blk_put (cs := #[.int .i64 ((rd_T136 l0_4 x26_2).f0), .int .i64 ((rd_T136 l0_4 x26_2).f1), .bool ((rd_T136 l0_4 x26_2).f2), .int .i64 0, .int .i64 0, .int .i64 0]) ?_ 3 _ rfl; (with_reducible repeat (first | refine blk_drewN ?_ _ | refine blk_drew ?_ | refine blk_alloc ?_ _)); refine blk_put (cs := #[.int .i64 ((rd_T136 l0_4 x26_2).f0), .int .i64 ((rd_T136 l0_4 x26_2).f1), .bool false, .int .i64 0, .int .i64 0, .int .i64 0]) ?_ 2 _ rfl; (with_reducible repeat (first | refine blk_drewN ?_ _ | refine blk_drew ?_ | refine blk_alloc ?_ _)); refine blk_put (cs := #[.int .i64 ((rd_T136 l0_4 x26_2).f0), .int .i64 0, .bool false, .int .i64 0, .int .i64 0, .int .i64 0]) ?_ 1 _ rfl; (with_reducible repeat (first | refine blk_drewN ?_ _ | refine blk_drew ?_ | refine blk_alloc ?_ _)); refine blk_put (cs := #[.int .i64 0, .int .i64 0, .bool false, .int .i64 0, .int .i64 0, .int .i64 0]) ?_ 0 _ rfl; (with_reducible repeat (first | refine blk_drewN ?_ _ | refine blk_drew ?_ | refine blk_alloc ?_ _)); exact BK267.out⟩
                    have n2_ : Aside0 (Below w.heap.size w ((((((w44.setCell ⟨gb267, 0, none⟩ (.int .i64 ((rd_T136 l0_4 x26_2).f0))).setCell ⟨gb267, 1, none⟩ (.int .i64 ((rd_T136 l0_4 x26_2).f1))).setCell ⟨gb267, 2, none⟩ (.bool ((rd_T136 l0_4 x26_2).f2))).setCell ⟨gb267, 3, none⟩ (.int .i64 ((rd_T136 l0_4 x26_2).f3.f0))).setCell ⟨gb267, 4, none⟩ (.int .i64 ((rd_T136 l0_4 x26_2).f3.f1))).setCell ⟨gb267, 5, none⟩ (.int .i64 ((rd_T136 l0_4 x26_2).f3.f2)))) := ⟨by repeat (first | (with_reducible first | exact HB.out | apply below_alloc | apply pw_below_drewN | apply below_drew1 | refine below_set ?_ GE263.out | refine below_set ?_ GE267.out) | exact HB.out)⟩
                    (try clear BK263)
                    (try clear BK267)
                    (try clear HB)
                    generalize ((((((w44.setCell ⟨gb267, 0, none⟩ (.int .i64 ((rd_T136 l0_4 x26_2).f0))).setCell ⟨gb267, 1, none⟩ (.int .i64 ((rd_T136 l0_4 x26_2).f1))).setCell ⟨gb267, 2, none⟩ (.bool ((rd_T136 l0_4 x26_2).f2))).setCell ⟨gb267, 3, none⟩ (.int .i64 ((rd_T136 l0_4 x26_2).f3.f0))).setCell ⟨gb267, 4, none⟩ (.int .i64 ((rd_T136 l0_4 x26_2).f3.f1))).setCell ⟨gb267, 5, none⟩ (.int .i64 ((rd_T136 l0_4 x26_2).f3.f2))) = w47 at n0_ n1_ n2_ ⊢
                    have BK263 := n0_
                    have BK267 := n1_
                    have HB := n2_
                    clear n0_ n1_ n2_
                    have n0_ := Aside0.mk (blk_drew BK263.out)
                    have n1_ := Aside0.mk (blk_drew BK267.out)
                    have n2_ := Aside0.mk (below_drew1 HB.out)
                    clear BK263
                    clear BK267
                    clear HB
                    have BK263 := n0_
                    have BK267 := n1_
                    have HB := n2_
                    clear n0_ n1_ n2_
                    refine start_ (n := 20) (S := fun w' => w'.cell? ⟨gb263, 0, none⟩ = some (.int .i64 a0_0) ∧ w'.cell? ⟨gb263, 1, none⟩ = some (.int .i64 a0_1) ∧ w'.cell? ⟨gb263, 2, none⟩ = some (.int .i64 a0_2) ∧ w'.cell? ⟨gb263, 3, none⟩ = some (.int .i64 a0_3) ∧ w'.cell? ⟨gb263, 4, none⟩ = some (.slice (some ad266) l0_4.length c0_4) ∧ w'.cell? ⟨gb267, 0, none⟩ = some (.int .i64 ((rd_T136 l0_4 x26_2).f0)) ∧ w'.cell? ⟨gb267, 1, none⟩ = some (.int .i64 ((rd_T136 l0_4 x26_2).f1)) ∧ w'.cell? ⟨gb267, 2, none⟩ = some (.bool ((rd_T136 l0_4 x26_2).f2)) ∧ w'.cell? ⟨gb267, 3, none⟩ = some (.int .i64 ((rd_T136 l0_4 x26_2).f3.f0)) ∧ w'.cell? ⟨gb267, 4, none⟩ = some (.int .i64 ((rd_T136 l0_4 x26_2).f3.f1)) ∧ w'.cell? ⟨gb267, 5, none⟩ = some (.int .i64 ((rd_T136 l0_4 x26_2).f3.f2))) (ds := []) (bz 20 0) (by kernel_rfl) rfl (by kernel_rfl) ⟨(blk_cell BK263.out 0).trans rfl, (blk_cell BK263.out 1).trans rfl, (blk_cell BK263.out 2).trans rfl, (blk_cell BK263.out 3).trans rfl, (blk_cell BK263.out 4).trans rfl, (blk_cell BK267.out 0).trans rfl, (blk_cell BK267.out 1).trans rfl, (blk_cell BK267.out 2).trans rfl, (blk_cell BK267.out 3).trans rfl, (blk_cell BK267.out 4).trans rfl, (blk_cell BK267.out 5).trans rfl⟩ (fun hHeld => ?_); refine with_tabW impl_FairOk.tab6 impl_FairOk.bits6 (fun HT_ HW_ => ?_)
                    generalize w47.drew = w48 at BK263 BK267 HB hHeld ⊢
                    refine tx_ (i := 0) (N := some 31) (bz 20 1) rfl rfl (take_ofW HT_.out HW_.out (by kernel_rfl)) hHeld Z94 ?_
                    refine tx_ (i := 1) (N := some 32) (bz 20 3) rfl rfl (take_ofW HT_.out HW_.out (by kernel_rfl)) hHeld Z94 ?_
                    refine one_ (i := 2) (N := some 33) (bz 20 7) rfl rfl (one_of HT_.out (by kernel_rfl)) (by decide) (fun K hK => ?_)
                    refine goes_ Try.func155 (by kernel_rfl) rfl #[.agg #[.int .i64 a0_0, .int .i64 a0_1, .int .i64 a0_2, .int .i64 a0_3, .slice (some ad266) l0_4.length c0_4], .agg #[.int .i64 ((rd_T136 l0_4 x26_2).f0), .int .i64 ((rd_T136 l0_4 x26_2).f1), .bool ((rd_T136 l0_4 x26_2).f2), .int .i64 ((rd_T136 l0_4 x26_2).f3.f0), .int .i64 ((rd_T136 l0_4 x26_2).f3.f1), .int .i64 ((rd_T136 l0_4 x26_2).f3.f2)]] (by rfl) rfl rfl Z41 ?_
                    with_reducible refine (impl_Fair_kidOk.calls a0_0 a0_1 a0_2 a0_3 _ _ l0_4 ((rd_T136 l0_4 x26_2).f0) ((rd_T136 l0_4 x26_2).f1) ((rd_T136 l0_4 x26_2).f2) ((rd_T136 l0_4 x26_2).f3.f0) ((rd_T136 l0_4 x26_2).f3.f1) ((rd_T136 l0_4 x26_2).f3.f2) false _ ?side1 ?side2 A24.out).mono ?_
                    (case side1 => repeat (first | exact (Kd.C_below HR0_4.out HB.out) | (with_reducible refine Kd.C_alloc ?_ _) | (with_reducible refine Kd.C_drewN ?_ _) | (with_reducible refine Kd.C_drew ?_)))
                    (case side2 => exact HC0_4.out)
                    rintro e w49 ⟨rfl, hb⟩
                    refine ⟨_, rfl, ?_⟩
                    have n0_ := Aside0.mk (blk_below (g := gb263) (o := .cells #[.int .i64 a0_0, .int .i64 a0_1, .int .i64 a0_2, .int .i64 a0_3, .slice (some ad266) l0_4.length c0_4] 52 (0, 0)) Z77 hb)
                    have n1_ := Aside0.mk (blk_below (g := gb267) (o := .cells #[.int .i64 ((rd_T136 l0_4 x26_2).f0), .int .i64 ((rd_T136 l0_4 x26_2).f1), .bool ((rd_T136 l0_4 x26_2).f2), .int .i64 ((rd_T136 l0_4 x26_2).f3.f0), .int .i64 ((rd_T136 l0_4 x26_2).f3.f1), .int .i64 ((rd_T136 l0_4 x26_2).f3.f2)] 136 (0, 0)) Z78 hb)
                    have n2_ := Aside0.mk (below_step Z16 hb)
                    clear BK263
                    clear BK267
                    clear HB
                    have BK263 := n0_
                    have BK267 := n1_
                    have HB := n2_
                    clear n0_ n1_ n2_
                    (try clear hb)
                    (try clear hb2)
                    (try clear hk)
                    (try clear hi)
                    refine hK.out _ _ ⟨(blk_cell BK263.out 0).trans rfl, (blk_cell BK263.out 1).trans rfl, (blk_cell BK263.out 2).trans rfl, (blk_cell BK263.out 3).trans rfl, (blk_cell BK263.out 4).trans rfl, (blk_cell BK267.out 0).trans rfl, (blk_cell BK267.out 1).trans rfl, (blk_cell BK267.out 2).trans rfl, (blk_cell BK267.out 3).trans rfl, (blk_cell BK267.out 4).trans rfl, (blk_cell BK267.out 5).trans rfl⟩ (fun hHeld => ?_)
                    clear hK K
                    refine nx_ (N := some 33) ?_
                    refine px_ (i := 3) (N := some 34) (bz 20 15) (any_of HT_.out (by kernel_rfl)) ?_
                    refine px_ (i := 4) (N := some 35) (bz 20 31) (any_of HT_.out (by kernel_rfl)) ?_
                    refine ox_ (i := 5) (N := some 36) (bz 20 63) (any_of HT_.out (by kernel_rfl)) ?_
                    refine ox_ (i := 6) (N := some 37) (bz 20 127) (any_of HT_.out (by kernel_rfl)) ?_
                    refine ox_ (i := 7) (N := some 38) (bz 20 255) (any_of HT_.out (by kernel_rfl)) ?_
                    refine ox_ (i := 8) (N := some 39) (bz 20 511) (any_of HT_.out (by kernel_rfl)) ?_
                    refine ox_ (i := 9) (N := some 40) (bz 20 1023) (any_of HT_.out (by kernel_rfl)) ?_
                    refine ox_ (i := 10) (N := some 41) (bz 20 2047) (any_of HT_.out (by kernel_rfl)) ?_
                    refine ox_ (i := 11) (N := some 42) (bz 20 4095) (any_of HT_.out (by kernel_rfl)) ?_
                    refine ox_ (i := 12) (N := some 43) (bz 20 8191) (any_of HT_.out (by kernel_rfl)) ?_
                    refine ox_ (i := 13) (N := some 44) (bz 20 16383) (any_of HT_.out (by kernel_rfl)) ?_
                    refine ox_ (i := 14) (N := some 45) (bz 20 32767) (any_of HT_.out (by kernel_rfl)) ?_
                    refine ox_ (i := 15) (N := some 46) (bz 20 65535) (any_of HT_.out (by kernel_rfl)) ?_
                    refine ox_ (i := 16) (N := some 47) (bz 20 131071) (any_of HT_.out (by kernel_rfl)) ?_
                    refine ox_ (i := 17) (N := some 48) (bz 20 262143) (any_of HT_.out (by kernel_rfl)) ?_
                    refine ox_ (i := 18) (N := some 49) (bz 20 524287) (any_of HT_.out (by kernel_rfl)) ?_
                    refine px_ (i := 19) (N := some 50) (bz 20 1048575) (any_of HT_.out (by kernel_rfl)) ?_
                    refine done_ (done_of HT_.out (by kernel_rfl)) ?_
                    try go_wp2
                    go_ret
                    exact ⟨by first | rfl | (simp [errW_none, errW_some] <;> rfl) | (simp [*, errW_none, errW_some] <;> rfl), by repeat (first | (with_reducible first | exact HB.out | apply below_alloc | apply pw_below_drewN | apply below_drew1 | refine below_set ?_ GE263.out | refine below_set ?_ GE267.out) | exact HB.out)⟩
                · rw [if_neg c23] at H
                  exact absurd H (by simp)
              · rw [if_neg c22] at H
                exact absurd H (by simp)
            · rw [if_neg c21] at H
              have c21b0 : decide (x26_2 < (l0_4.length : Int)) = false := decide_eq_false c21
              clear c21
              obtain rfl := Option.some.inj H
              go_wp2
              go_ret
              exact ⟨by first | rfl | (simp [errW_none, errW_some] <;> rfl) | (simp [*, errW_none, errW_some] <;> rfl), by repeat (first | (with_reducible first | exact HB.out | apply below_alloc | apply pw_below_drewN | apply below_drew1 | refine below_set ?_ GE263.out) | exact HB.out)⟩

end Go.Proofs.Yteecolnemffffaa.PFnExactTreeOk
