-- by a program of this session's, over the kit's words
import Derived.Test.YteecolnemffffaaPZFnExactTreeOk
import Derived.Test.YteecolnemffffaaPFnExactTreeOkx0
import Derived.Test.YteecolnemffffaaPFnExactTreeOkx6
namespace Go.Proofs.Yteecolnemffffaa.PFnExactTreeOk
open Go.RowKit Go.Proofs.YteecolnemffffaaW.PrintWords Go.Proofs.YteecolnemffffaaW.PrintLast Go.Proofs.YteecolnemffffaaW.PrintMore Go.Proofs.YteecolnemffffaaV Go.Proofs.Yteecolnemffffaa.ZFnExactTreeOk
attribute [local go_sem] max2_int min2_int max_two min_two max_three min_three max_four min_four   -- for this text's walks alone
set_option linter.unusedVariables false
set_option linter.unusedSimpArgs false

/-! ### impl_Fair_pick: function 156 -/
def impl_Fair_pick.l0 : Nat → Int → List (S136) → Int → Int → Int → Int → Int → Int → List (S136) → Option (Int)
  | 0, _, _, _, _, _, _, _, _, _ => none
  | k + 1, x3, x7, x8, x9, x271000, x271001, x271002, x271003, x271004 => if x9 < x8 then (if 0 ≤ x9 then (if x9 < (x7.length : Int) then (if (rd_T136 x7 x9).f2 = true then (if x3 < 0 then (impl_Fair_pick.l0 k x9 x7 x8 (wrap64 (x9 + 1)) x271000 x271001 x271002 x271003 x271004) else ((impl_VecTop.f ((rd_T136 x7 x9).f3.f0) ((rd_T136 x7 x9).f3.f1) ((rd_T136 x7 x9).f3.f2)).bind fun t273 => (if 0 ≤ x3 then (if x3 < (x271004.length : Int) then ((impl_VecTop.f ((rd_T136 x271004 x3).f3.f0) ((rd_T136 x271004 x3).f3.f1) ((rd_T136 x271004 x3).f3.f2)).bind fun t275 => (if t273 < t275 then (impl_Fair_pick.l0 k x9 x7 x8 (wrap64 (x9 + 1)) x271000 x271001 x271002 x271003 x271004) else (impl_Fair_pick.l0 k x3 x7 x8 (wrap64 (x9 + 1)) x271000 x271001 x271002 x271003 x271004))) else (none)) else (none)))) else (impl_Fair_pick.l0 k x3 x7 x8 (wrap64 (x9 + 1)) x271000 x271001 x271002 x271003 x271004)) else (none)) else (none)) else (some x3)
def impl_Fair_pick.f (k : Nat) (a0_0 : Int) (a0_1 : Int) (a0_2 : Int) (a0_3 : Int) (l0_4 : List (S136)) : Option (Int) := impl_Fair_pick.l0 k (-1) l0_4 (l0_4.length : Int) 0 a0_0 a0_1 a0_2 a0_3 l0_4
def impl_Fair_pick.T5 : Bool × List (List Nat × List Nat) := (true, [([], []), ([0], [0]), ([1], [1]), ([2], [2]), ([3, 2], [2, 3]), ([4, 2, 2], [2, 4]), ([5], [5]), ([6, 5], [5, 6]), ([7, 5, 5], [5, 7]), ([5], [5]), ([9, 5], [5, 9]), ([5], [5]), ([10, 11, 5], [5, 10, 11]), ([12, 5], [5, 12]), ([13, 5], [5, 13]), ([14, 8, 5], [5, 14]), ([8, 15, 5], [5, 8, 15]), ([5, 16, 2], [2, 5, 16]), ([2, 17], [2, 17])])
def impl_Fair_pick.B5 : List Nat := [0, 1, 3, 7, 15, 31, 63, 127, 255, 63, 575, 63, 3647, 7743, 15935, 32767, 65535, 131071, 262143]
theorem impl_Fair_pick.tab5 : rtab .any (opsOf Try.f156 5) = impl_Fair_pick.T5 := by kernel_rfl
theorem impl_Fair_pick.bits5 : waitsOk impl_Fair_pick.T5.2 impl_Fair_pick.B5 = true := by kernel_rfl
set_option maxHeartbeats 8000000 in
set_option maxRecDepth 100000 in
theorem impl_Fair_pick.calls (k : Nat) (a0_0 : Int) (a0_1 : Int) (a0_2 : Int) (a0_3 : Int) (A0_4 : Option Addr) (c0_4 : Nat) (l0_4 : List (S136)) (r : Int) (w : World) (hr0_4 : Kd.C k136 w A0_4 l0_4.length l0_4) (hc0_4 : l0_4.length ≤ c0_4) (h : impl_Fair_pick.f k a0_0 a0_1 a0_2 a0_3 l0_4 = some r) :
    Calls Try.prog 156 #[.agg #[.int .i64 a0_0, .int .i64 a0_1, .int .i64 a0_2, .int .i64 a0_3, .slice A0_4 l0_4.length c0_4]] w fun e w' => e = .returned (.int .i64 r) ∧ Below w.heap.size w w' := by
  have hu52 := Try.underlying52
  have hu136 := Try.underlying136
  have hu49 := Try.underlying49
  have HR0_4 := Aside0.mk hr0_4
  have HC0_4 := Aside0.mk hc0_4
  clear hr0_4 hc0_4
  have HB := Aside0.mk (Below.refl w.heap.size w)
  have H : (impl_Fair_pick.l0 k (-1) l0_4 (l0_4.length : Int) 0 a0_0 a0_1 a0_2 a0_3 l0_4) = some r := h
  clear h
  have H' := Aside0.mk H
  clear H
  go_enter Try.func156, Try.ntmps156
  go_wp2_with (first | ((with_reducible refine gate_dst (N := 1) rfl ?_); refine box_event ?hg (N := 1) ?hd (cs := #[.int .i64 a0_0, .int .i64 a0_1, .int .i64 a0_2, .int .i64 a0_3, .slice A0_4 l0_4.length c0_4]) (t := 52) ?hr ?_; (case hd => rfl); (case hg => rfl); (case hr => first | (go_simp; done) | (go_simp; rfl)); intro gb270 hg w2 hbox hb; have n0_ := Aside0.mk (below_step Z42 hb); have n1_ := Aside0.mk (hbox); have n2_ := Aside0.mk ((by rw [hg]; exact (below_size Z42) : w.heap.size ≤ gb270)); have n3_ := Aside0.mk ((by rw [hg]; exact (below_size Z42) : w.heap.size ≤ gb270)); clear HB; have HB := n0_; have BK270 := n1_; have GW270 := n2_; have GE270 := n3_; clear n0_ n1_ n2_ n3_; clear hb hbox hg; have hcz3_0 : w2.cell? ⟨gb270, 0, none⟩ = some (.int .i64 a0_0) := (blk_cell BK270.out 0).trans rfl; have hcz3_1 : w2.cell? ⟨gb270, 1, none⟩ = some (.int .i64 a0_1) := (blk_cell BK270.out 1).trans rfl; have hcz3_2 : w2.cell? ⟨gb270, 2, none⟩ = some (.int .i64 a0_2) := (blk_cell BK270.out 2).trans rfl; have hcz3_3 : w2.cell? ⟨gb270, 3, none⟩ = some (.int .i64 a0_3) := (blk_cell BK270.out 3).trans rfl; have hcz3_4 : w2.cell? ⟨gb270, 4, none⟩ = some (.slice A0_4 l0_4.length c0_4) := (blk_cell BK270.out 4).trans rfl; have hfz3_0 := blk_frozen BK270.out 0; have hfz3_1 := blk_frozen BK270.out 1; have hfz3_2 := blk_frozen BK270.out 2; have hfz3_3 := blk_frozen BK270.out 3; have hfz3_4 := blk_frozen BK270.out 4))
  go_loopg [3, 9] k (fun kq v3 v9 w' => ∃ (x3_1 : Int) (x9_1 : Int), v3 = .int .i64 x3_1 ∧ v9 = .int .i64 x9_1 ∧ Aside0 (impl_Fair_pick.l0 kq x3_1 l0_4 (l0_4.length : Int) x9_1 a0_0 a0_1 a0_2 a0_3 l0_4 = some r) ∧ Aside0 (kq ≤ k) ∧ Aside0 (w'.heap[gb270]? = some (.cells #[.int .i64 a0_0, .int .i64 a0_1, .int .i64 a0_2, .int .i64 a0_3, (.slice A0_4 l0_4.length c0_4)] 52 (0, 0))) ∧ Aside0 (Below w.heap.size w w'))
  case atStart => exact ⟨((-1)), (0), Z98, Z98, H', ⟨Nat.le_refl _⟩, ⟨by (with_reducible repeat (first | refine blk_drewN ?_ _ | refine blk_drew ?_ | refine blk_alloc ?_ _)); exact BK270.out⟩, ⟨by repeat (first | (with_reducible first | exact HB.out | apply below_alloc | apply pw_below_drewN | apply below_drew1 | refine below_set ?_ GE270.out) | exact HB.out)⟩⟩
  case round =>
    clear H'
    try clear c1
    try clear p2
    try clear hcz3_0
    try clear hcz3_1
    try clear hcz3_2
    try clear hcz3_3
    try clear hcz3_4
    try clear hfz3_0
    try clear hfz3_1
    try clear hfz3_2
    try clear hfz3_3
    try clear hfz3_4
    obtain ⟨x3_1, x9_1, rfl, rfl, HA, HK1, BK270, HB⟩ := hrel
    cases gk with
    | zero => exact absurd HA.out (by simp [impl_Fair_pick.l0])
    | succ k1 =>
      have H := HA.out
      clear HA
      simp only [impl_Fair_pick.l0] at H
      by_cases c4 : x9_1 < (l0_4.length : Int)
      · rw [if_pos c4] at H
        have c4b0 : decide (x9_1 < (l0_4.length : Int)) = true := decide_eq_true c4
        clear c4
        by_cases c5 : 0 ≤ x9_1
        · rw [if_pos c5] at H
          have c5b0 : decide (0 ≤ x9_1) = true := decide_eq_true c5
          clear c5
          by_cases c6 : x9_1 < (l0_4.length : Int)
          · rw [if_pos c6] at H
            have c6b0 : decide (x9_1 < (l0_4.length : Int)) = true := decide_eq_true c6
            clear c6
            obtain ⟨bq7, hbq7⟩ : ∃ b_ : Bool, b_ = ((rd_T136 l0_4 x9_1).f2) := ⟨_, rfl⟩
            replace H : (if bq7 = true then (if x3_1 < 0 then (impl_Fair_pick.l0 k1 x9_1 l0_4 (l0_4.length : Int) (wrap64 (x9_1 + 1)) a0_0 a0_1 a0_2 a0_3 l0_4) else ((impl_VecTop.f ((rd_T136 l0_4 x9_1).f3.f0) ((rd_T136 l0_4 x9_1).f3.f1) ((rd_T136 l0_4 x9_1).f3.f2)).bind fun t273 => (if 0 ≤ x3_1 then (if x3_1 < (l0_4.length : Int) then ((impl_VecTop.f ((rd_T136 l0_4 x3_1).f3.f0) ((rd_T136 l0_4 x3_1).f3.f1) ((rd_T136 l0_4 x3_1).f3.f2)).bind fun t275 => (if t273 < t275 then (impl_Fair_pick.l0 k1 x9_1 l0_4 (l0_4.length : Int) (wrap64 (x9_1 + 1)) a0_0 a0_1 a0_2 a0_3 l0_4) else (impl_Fair_pick.l0 k1 x3_1 l0_4 (l0_4.length : Int) (wrap64 (x9_1 + 1)) a0_0 a0_1 a0_2 a0_3 l0_4))) else (none)) else (none)))) else (impl_Fair_pick.l0 k1 x3_1 l0_4 (l0_4.length : Int) (wrap64 (x9_1 + 1)) a0_0 a0_1 a0_2 a0_3 l0_4)) = some r := by rw [← hbq7] at H; exact H
            have Nbq7 := Aside0.mk hbq7
            clear hbq7
            by_cases c8 : bq7 = true
            · subst c8
              have H1 : (if x3_1 < 0 then (impl_Fair_pick.l0 k1 x9_1 l0_4 (l0_4.length : Int) (wrap64 (x9_1 + 1)) a0_0 a0_1 a0_2 a0_3 l0_4) else ((impl_VecTop.f ((rd_T136 l0_4 x9_1).f3.f0) ((rd_T136 l0_4 x9_1).f3.f1) ((rd_T136 l0_4 x9_1).f3.f2)).bind fun t273 => (if 0 ≤ x3_1 then (if x3_1 < (l0_4.length : Int) then ((impl_VecTop.f ((rd_T136 l0_4 x3_1).f3.f0) ((rd_T136 l0_4 x3_1).f3.f1) ((rd_T136 l0_4 x3_1).f3.f2)).bind fun t275 => (if t273 < t275 then (impl_Fair_pick.l0 k1 x9_1 l0_4 (l0_4.length : Int) (wrap64 (x9_1 + 1)) a0_0 a0_1 a0_2 a0_3 l0_4) else (impl_Fair_pick.l0 k1 x3_1 l0_4 (l0_4.length : Int) (wrap64 (x9_1 + 1)) a0_0 a0_1 a0_2 a0_3 l0_4))) else (none)) else (none)))) = some r := by rw [if_pos rfl] at H; exact H
              clear H
              have H := H1
              clear H1
              by_cases c9 : x3_1 < 0
              · rw [if_pos c9] at H
                have c9b0 : decide (x3_1 < 0) = true := decide_eq_true c9
                clear c9
                have H' := Aside0.mk H
                clear H
                have p271 : 0 ≤ (x9_1 : Int) := of_decide_eq_true Z97
                have q271 : x9_1 < (l0_4.length : Int) := of_decide_eq_true Z97
                obtain ⟨ad271, e271, hx271_0, hx271_1, hx271_2, hx271_3, hx271_4, hx271_5⟩ := at_T136 HR0_4.out x9_1 p271 q271
                (try rw [← Nbq7.out] at hx271_2)
                cases e271
                replace hx271_0 := (HB.out.cell (World.block_lt_of_cell? w _ hx271_0)).trans hx271_0
                replace hx271_1 := (HB.out.cell (World.block_lt_of_cell? w _ hx271_1)).trans hx271_1
                replace hx271_2 := (HB.out.cell (World.block_lt_of_cell? w _ hx271_2)).trans hx271_2
                replace hx271_3 := (HB.out.cell (World.block_lt_of_cell? w _ hx271_3)).trans hx271_3
                replace hx271_4 := (HB.out.cell (World.block_lt_of_cell? w _ hx271_4)).trans hx271_4
                replace hx271_5 := (HB.out.cell (World.block_lt_of_cell? w _ hx271_5)).trans hx271_5
                replace p271 := eq_true p271
                replace q271 := eq_true q271
                try go_wp2_with (first | ((with_reducible refine gate_dst (N := 5) rfl ?_); refine box_event ?hg (N := 5) ?hd (cs := #[.int .i64 0, .int .i64 0, .bool false, .int .i64 0, .int .i64 0, .int .i64 0]) (t := 136) ?hr ?_; (case hd => rfl); (case hg => rfl); (case hr => first | (go_simp; done) | (go_simp; rfl)); intro gb272 hg w10 hbox hb; have n0_ := Aside0.mk (blk_below (g := gb270) (o := .cells #[.int .i64 a0_0, .int .i64 a0_1, .int .i64 a0_2, .int .i64 a0_3, .slice (some ad271) l0_4.length c0_4] 52 (0, 0)) Z79 hb); have n1_ := Aside0.mk (below_step Z38 hb); have n2_ := Aside0.mk (hbox); have n3_ := Aside0.mk ((by rw [hg]; exact (below_size Z38) : w.heap.size ≤ gb272)); have n4_ := Aside0.mk ((by rw [hg]; exact (below_size Z38) : w.heap.size ≤ gb272)); have n5_ := Aside0.mk ((by rw [hg]; exact Nat.ne_of_lt (blk_lt (g := gb270) (o := .cells #[.int .i64 a0_0, .int .i64 a0_1, .int .i64 a0_2, .int .i64 a0_3, .slice (some ad271) l0_4.length c0_4] 52 (0, 0)) Z79) : gb270 ≠ gb272)); have n6_ := Aside0.mk ((by rw [hg]; exact Nat.ne_of_gt (blk_lt (g := gb270) (o := .cells #[.int .i64 a0_0, .int .i64 a0_1, .int .i64 a0_2, .int .i64 a0_3, .slice (some ad271) l0_4.length c0_4] 52 (0, 0)) Z79) : gb272 ≠ gb270)); clear BK270; clear HB; have BK270 := n0_; have HB := n1_; have BK272 := n2_; have GW272 := n3_; have GE272 := n4_; have NB270_272 := n5_; have NB272_270 := n6_; clear n0_ n1_ n2_ n3_ n4_ n5_ n6_; clear hb hbox hg; (try have hnb11 := NB272_270.out); (try have hnc11 := NB270_272.out); have hcz12_0 : w10.cell? ⟨gb272, 0, none⟩ = some (.int .i64 0) := (blk_cell BK272.out 0).trans rfl; have hcz12_1 : w10.cell? ⟨gb272, 1, none⟩ = some (.int .i64 0) := (blk_cell BK272.out 1).trans rfl; have hcz12_2 : w10.cell? ⟨gb272, 2, none⟩ = some (.bool false) := (blk_cell BK272.out 2).trans rfl; have hcz12_3 : w10.cell? ⟨gb272, 3, none⟩ = some (.int .i64 0) := (blk_cell BK272.out 3).trans rfl; have hcz12_4 : w10.cell? ⟨gb272, 4, none⟩ = some (.int .i64 0) := (blk_cell BK272.out 4).trans rfl; have hcz12_5 : w10.cell? ⟨gb272, 5, none⟩ = some (.int .i64 0) := (blk_cell BK272.out 5).trans rfl; have hfz12_0 := blk_frozen BK272.out 0; have hfz12_1 := blk_frozen BK272.out 1; have hfz12_2 := blk_frozen BK272.out 2; have hfz12_3 := blk_frozen BK272.out 3; have hfz12_4 := blk_frozen BK272.out 4; have hfz12_5 := blk_frozen BK272.out 5))
                have n0_ : Aside0 (((((((w10.setCell ⟨gb272, 0, none⟩ (.int .i64 ((rd_T136 l0_4 x9_1).f0))).setCell ⟨gb272, 1, none⟩ (.int .i64 ((rd_T136 l0_4 x9_1).f1))).setCell ⟨gb272, 2, none⟩ (.bool true)).setCell ⟨gb272, 3, none⟩ (.int .i64 ((rd_T136 l0_4 x9_1).f3.f0))).setCell ⟨gb272, 4, none⟩ (.int .i64 ((rd_T136 l0_4 x9_1).f3.f1))).setCell ⟨gb272, 5, none⟩ (.int .i64 ((rd_T136 l0_4 x9_1).f3.f2))).heap[gb270]? = some (.cells #[.int .i64 a0_0, .int .i64 a0_1, .int .i64 a0_2, .int .i64 a0_3, .slice (some ad271) l0_4.length c0_4] 52 (0, 0))) := ⟨by (with_reducible repeat (first | refine blk_drewN ?_ _ | refine blk_drew ?_ | refine blk_alloc ?_ _)); refine blk_far ?_ NB270_272.out _; (with_reducible repeat (first | refine blk_drewN ?_ _ | refine blk_drew ?_ | refine blk_alloc ?_ _)); refine blk_far ?_ NB270_272.out _; (with_reducible repeat (first | refine blk_drewN ?_ _ | refine blk_drew ?_ | refine blk_alloc ?_ _)); refine blk_far ?_ NB270_272.out _; (with_reducible repeat (first | refine blk_drewN ?_ _ | refine blk_drew ?_ | refine blk_alloc ?_ _)); refine blk_far ?_ NB270_272.out _; (with_reducible repeat (first | refine blk_drewN ?_ _ | refine blk_drew ?_ | refine blk_alloc ?_ _)); refine blk_far ?_ NB270_272.out _; (with_reducible repeat (first | refine blk_drewN ?_ _ | refine blk_drew ?_ | refine blk_alloc ?_ _)); refine blk_far ?_ NB270_272.out _; (with_reducible repeat (first | refine blk_drewN ?_ _ | refine blk_drew ?_ | refine blk_alloc ?_ _)); exact BK270.out⟩
                have n1_ : Aside0 (((((((w10.setCell ⟨gb272, 0, none⟩ (.int .i64 ((rd_T136 l0_4 x9_1).f0))).setCell ⟨gb272, 1, none⟩ (.int .i64 ((rd_T136 l0_4 x9_1).f1))).setCell ⟨gb272, 2, none⟩ (.bool true)).setCell ⟨gb272, 3, none⟩ (.int .i64 ((rd_T136 l0_4 x9_1).f3.f0))).setCell ⟨gb272, 4, none⟩ (.int .i64 ((rd_T136 l0_4 x9_1).f3.f1))).setCell ⟨gb272, 5, none⟩ (.int .i64 ((rd_T136 l0_4 x9_1).f3.f2))).heap[gb272]? = some (.cells #[.int .i64 ((rd_T136 l0_4 x9_1).f0), .int .i64 ((rd_T136 l0_4 x9_1).f1), .bool true, .int .i64 ((rd_T136 l0_4 x9_1).f3.f0), .int .i64 ((rd_T136 l0_4 x9_1).f3.f1), .int .i64 ((rd_T136 l0_4 x9_1).f3.f2)] 136 (0, 0))) := ⟨by (with_reducible repeat (first | refine blk_drewN ?_ _ | refine blk_drew ?_ | refine blk_alloc ?_ _)); refine blk_put (cs := #[.int .i64 ((rd_T136 l0_4 x9_1).f0), .int .i64 ((rd_T136 l0_4 x9_1).f1), .bool true, .int .i64 ((rd_T136 l0_4 x9_1).f3.f0), .int .i64 ((rd_T136 l0_4 x9_1).f3.f1), .int .i64 0]) ?_ 5 _ rfl; (with_reducible repeat (first | refine blk_drewN ?_ _ | refine blk_drew ?_ | refine blk_alloc ?_ _)); refine blk_put (cs := #[.int .i64 ((rd_T136 l0_4 x9_1).f0), .int .i64 ((rd_T136 l0_4 x9_1).f1), .bool true, .int .i64 ((rd_T136 l0_4 x9_1).f3.f0), .int .i64 0, .int .i64 0]) ?_ 4 _ rfl; (with_reducible repeat (first | refine blk_drewN ?_ _ | refine blk_drew ?_ | refine blk_alloc ?_ _)); refine blk_put (cs := #[.int .i64 ((rd_T136 l0_4 x9_1).f0), .int .i64 ((rd_T136 l0_4 x9_1).f1), .bool true, .int .i64 0, .int .i64 0, .int .i64 0]) ?_ 3 _ rfl; (with_reducible repeat (first | refine blk_drewN ?_ _ | refine blk_drew ?_ | refine blk_alloc ?_ _)); refine blk_put (cs := #[.int .i64 ((rd_T136 l0_4 x9_1).f0), .int .i64 ((rd_T136 l0_4 x9_1).f1), .bool false, .int .i64 0, .int .i64 0, .int .i64 0]) ?_ 2 _ rfl; (with_reducible repeat (first | refine blk_drewN ?_ _ | refine blk_drew ?_ | refine blk_alloc ?_ _)); refine blk_put (cs := #[.int .i64 ((rd_T136 l0_4 x9_1).f0), .int .i64 0, .bool false, .int .i64 0, .int .i64 0, .int .i64 0]) ?_ 1 _ rfl; (with_reducible repeat (first | refine blk_drewN ?_ _ | refine blk_drew ?_ | refine blk_alloc ?_ _)); refine blk_put (cs := #[.int .i64 0, .int .i64 0, .bool false, .int .i64 0, .int .i64 0, .int .i64 0]) ?_ 0 _ rfl; (with_reducible repeat (first | refine blk_drewN ?_ _ | refine blk_drew ?_ | refine blk_alloc ?_ _)); exact BK272.out⟩
                have n2_ : Aside0 (Below w.heap.size w ((((((w10.setCell ⟨gb272, 0, none⟩ (.int .i64 ((rd_T136 l0_4 x9_1).f0))).setCell ⟨gb272, 1, none⟩ (.int .i64 ((rd_T136 l0_4 x9_1).f1))).setCell ⟨gb272, 2, none⟩ (.bool true)).setCell ⟨gb272, 3, none⟩ (.int .i64 ((rd_T136 l0_4 x9_1).f3.f0))).setCell ⟨gb272, 4, none⟩ (.int .i64 ((rd_T136 l0_4 x9_1).f3.f1))).setCell ⟨gb272, 5, none⟩ (.int .i64 ((rd_T136 l0_4 x9_1).f3.f2)))) := ⟨by repeat (first | (with_reducible first | exact HB.out | apply below_alloc | apply pw_below_drewN | apply below_drew1 | refine below_set ?_ GE270.out | refine below_set ?_ GE272.out) | exact HB.out)⟩
                (try clear BK270)
                (try clear BK272)
                (try clear HB)
                generalize ((((((w10.setCell ⟨gb272, 0, none⟩ (.int .i64 ((rd_T136 l0_4 x9_1).f0))).setCell ⟨gb272, 1, none⟩ (.int .i64 ((rd_T136 l0_4 x9_1).f1))).setCell ⟨gb272, 2, none⟩ (.bool true)).setCell ⟨gb272, 3, none⟩ (.int .i64 ((rd_T136 l0_4 x9_1).f3.f0))).setCell ⟨gb272, 4, none⟩ (.int .i64 ((rd_T136 l0_4 x9_1).f3.f1))).setCell ⟨gb272, 5, none⟩ (.int .i64 ((rd_T136 l0_4 x9_1).f3.f2))) = w13 at n0_ n1_ n2_ ⊢
                have BK270 := n0_
                have BK272 := n1_
                have HB := n2_
                clear n0_ n1_ n2_
                have n0_ := Aside0.mk (blk_drew BK270.out)
                have n1_ := Aside0.mk (blk_drew BK272.out)
                have n2_ := Aside0.mk (below_drew1 HB.out)
                clear BK270
                clear BK272
                clear HB
                have BK270 := n0_
                have BK272 := n1_
                have HB := n2_
                clear n0_ n1_ n2_
                refine start_ (n := 19) (S := fun w' => w'.cell? ⟨gb272, 0, none⟩ = some (.int .i64 ((rd_T136 l0_4 x9_1).f0)) ∧ w'.cell? ⟨gb272, 1, none⟩ = some (.int .i64 ((rd_T136 l0_4 x9_1).f1)) ∧ w'.cell? ⟨gb272, 2, none⟩ = some (.bool true) ∧ w'.cell? ⟨gb272, 3, none⟩ = some (.int .i64 ((rd_T136 l0_4 x9_1).f3.f0)) ∧ w'.cell? ⟨gb272, 4, none⟩ = some (.int .i64 ((rd_T136 l0_4 x9_1).f3.f1)) ∧ w'.cell? ⟨gb272, 5, none⟩ = some (.int .i64 ((rd_T136 l0_4 x9_1).f3.f2))) (ds := []) (bz 19 0) (by kernel_rfl) rfl (by kernel_rfl) ⟨(blk_cell BK272.out 0).trans rfl, (blk_cell BK272.out 1).trans rfl, (blk_cell BK272.out 2).trans rfl, (blk_cell BK272.out 3).trans rfl, (blk_cell BK272.out 4).trans rfl, (blk_cell BK272.out 5).trans rfl⟩ (fun hHeld => ?_); refine with_tabW impl_Fair_pick.tab5 impl_Fair_pick.bits5 (fun HT_ HW_ => ?_)
                generalize w13.drew = w14 at BK270 BK272 HB hHeld ⊢
                refine px_ (i := 0) (N := some 14) (bz 19 1) (any_of HT_.out (by kernel_rfl)) ?_
                refine tx_ (i := 1) (N := some 15) (bz 19 3) rfl rfl (take_ofW HT_.out HW_.out (by kernel_rfl)) hHeld Z95 ?_
                refine px_ (i := 2) (N := some 16) (bz 19 7) (any_of HT_.out (by kernel_rfl)) ?_
                refine px_ (i := 3) (N := some 17) (bz 19 15) (any_of HT_.out (by kernel_rfl)) ?_
                refine px_ (i := 4) (N := some 18) (bz 19 31) (any_of HT_.out (by kernel_rfl)) ?_
                refine px_ (i := 5) (N := some 19) (bz 19 63) (any_of HT_.out (by kernel_rfl)) ?_
                refine ox_ (i := 6) (N := some 20) (bz 19 127) (any_of HT_.out (by kernel_rfl)) ?_
                refine ox_ (i := 7) (N := some 21) (bz 19 255) (any_of HT_.out (by kernel_rfl)) ?_
                refine ox_ (i := 8) (N := some 22) (bz 19 511) (any_of HT_.out (by kernel_rfl)) ?_
                refine ox_ (i := 9) (N := some 23) (bz 19 1023) (any_of HT_.out (by kernel_rfl)) ?_
                refine ox_ (i := 10) (N := some 24) (bz 19 2047) (any_of HT_.out (by kernel_rfl)) ?_
                refine ox_ (i := 11) (N := some 25) (bz 19 4095) (any_of HT_.out (by kernel_rfl)) ?_
                refine ox_ (i := 12) (N := some 26) (bz 19 8191) (any_of HT_.out (by kernel_rfl)) ?_
                refine ox_ (i := 13) (N := some 27) (bz 19 16383) (any_of HT_.out (by kernel_rfl)) ?_
                refine ox_ (i := 14) (N := some 28) (bz 19 32767) (any_of HT_.out (by kernel_rfl)) ?_
                refine ox_ (i := 15) (N := some 29) (bz 19 65535) (any_of HT_.out (by kernel_rfl)) ?_
                refine ox_ (i := 16) (N := some 30) (bz 19 131071) (any_of HT_.out (by kernel_rfl)) ?_
                refine px_ (i := 17) (N := some 31) (bz 19 262143) (any_of HT_.out (by kernel_rfl)) ?_
                refine px_ (i := 18) (N := some 32) (bz 19 524287) (any_of HT_.out (by kernel_rfl)) ?_
                refine done_ (done_of HT_.out (by kernel_rfl)) ?_
                try go_wp2
                go_roundg k1
                case measure => have := HK1.out; omega
                case rel => exact ⟨(x9_1), (wrap64 (x9_1 + 1)), Z98, Z98, H', ⟨by have := HK1.out; omega⟩, ⟨by (with_reducible repeat (first | refine blk_drewN ?_ _ | refine blk_drew ?_ | refine blk_alloc ?_ _)); exact BK270.out⟩, ⟨by repeat (first | (with_reducible first | exact HB.out | apply below_alloc | apply pw_below_drewN | apply below_drew1 | refine below_set ?_ GE270.out | refine below_set ?_ GE272.out) | exact HB.out)⟩⟩
              · rw [if_neg c9] at H
                have c9b0 : decide (x3_1 < 0) = false := decide_eq_false c9
                clear c9
                replace H := Option.bind_eq_some_iff.mp H
                obtain ⟨t273, A150, H⟩ := H
                replace H : (if 0 ≤ x3_1 then (if x3_1 < (l0_4.length : Int) then ((impl_VecTop.f ((rd_T136 l0_4 x3_1).f3.f0) ((rd_T136 l0_4 x3_1).f3.f1) ((rd_T136 l0_4 x3_1).f3.f2)).bind fun t275 => (if t273 < t275 then (impl_Fair_pick.l0 k1 x9_1 l0_4 (l0_4.length : Int) (wrap64 (x9_1 + 1)) a0_0 a0_1 a0_2 a0_3 l0_4) else (impl_Fair_pick.l0 k1 x3_1 l0_4 (l0_4.length : Int) (wrap64 (x9_1 + 1)) a0_0 a0_1 a0_2 a0_3 l0_4))) else (none)) else (none)) = some r := H
                have A15 := Aside0.mk A150
                clear A150
                by_cases c16 : 0 ≤ x3_1
                · rw [if_pos c16] at H
                  have c16b0 : decide (0 ≤ x3_1) = true := decide_eq_true c16
                  clear c16
                  by_cases c17 : x3_1 < (l0_4.length : Int)
                  · rw [if_pos c17] at H
                    have c17b0 : decide (x3_1 < (l0_4.length : Int)) = true := decide_eq_true c17
                    clear c17
                    replace H := Option.bind_eq_some_iff.mp H
                    obtain ⟨t275, A180, H⟩ := H
                    replace H : (if t273 < t275 then (impl_Fair_pick.l0 k1 x9_1 l0_4 (l0_4.length : Int) (wrap64 (x9_1 + 1)) a0_0 a0_1 a0_2 a0_3 l0_4) else (impl_Fair_pick.l0 k1 x3_1 l0_4 (l0_4.length : Int) (wrap64 (x9_1 + 1)) a0_0 a0_1 a0_2 a0_3 l0_4)) = some r := H
                    have A18 := Aside0.mk A180
                    clear A180
                    have HU19 := Aside0.mk H
                    clear H
                    have p271 : 0 ≤ (x9_1 : Int) := of_decide_eq_true Z97
                    have q271 : x9_1 < (l0_4.length : Int) := of_decide_eq_true Z97
                    obtain ⟨ad271, e271, hx271_0, hx271_1, hx271_2, hx271_3, hx271_4, hx271_5⟩ := at_T136 HR0_4.out x9_1 p271 q271
                    (try rw [← Nbq7.out] at hx271_2)
                    cases e271
                    replace hx271_0 := (HB.out.cell (World.block_lt_of_cell? w _ hx271_0)).trans hx271_0
                    replace hx271_1 := (HB.out.cell (World.block_lt_of_cell? w _ hx271_1)).trans hx271_1
                    replace hx271_2 := (HB.out.cell (World.block_lt_of_cell? w _ hx271_2)).trans hx271_2
                    replace hx271_3 := (HB.out.cell (World.block_lt_of_cell? w _ hx271_3)).trans hx271_3
                    replace hx271_4 := (HB.out.cell (World.block_lt_of_cell? w _ hx271_4)).trans hx271_4
                    replace hx271_5 := (HB.out.cell (World.block_lt_of_cell? w _ hx271_5)).trans hx271_5
                    replace p271 := eq_true p271
                    replace q271 := eq_true q271
                    try go_wp2_with (first | ((with_reducible refine gate_dst (N := 5) rfl ?_); refine box_event ?hg (N := 5) ?hd (cs := #[.int .i64 0, .int .i64 0, .bool false, .int .i64 0, .int .i64 0, .int .i64 0]) (t := 136) ?hr ?_; (case hd => rfl); (case hg => rfl); (case hr => first | (go_simp; done) | (go_simp; rfl)); intro gb272 hg w20 hbox hb; have n0_ := Aside0.mk (blk_below (g := gb270) (o := .cells #[.int .i64 a0_0, .int .i64 a0_1, .int .i64 a0_2, .int .i64 a0_3, .slice (some ad271) l0_4.length c0_4] 52 (0, 0)) Z79 hb); have n1_ := Aside0.mk (below_step Z38 hb); have n2_ := Aside0.mk (hbox); have n3_ := Aside0.mk ((by rw [hg]; exact (below_size Z38) : w.heap.size ≤ gb272)); have n4_ := Aside0.mk ((by rw [hg]; exact (below_size Z38) : w.heap.size ≤ gb272)); have n5_ := Aside0.mk ((by rw [hg]; exact Nat.ne_of_lt (blk_lt (g := gb270) (o := .cells #[.int .i64 a0_0, .int .i64 a0_1, .int .i64 a0_2, .int .i64 a0_3, .slice (some ad271) l0_4.length c0_4] 52 (0, 0)) Z79) : gb270 ≠ gb272)); have n6_ := Aside0.mk ((by rw [hg]; exact Nat.ne_of_gt (blk_lt (g := gb270) (o := .cells #[.int .i64 a0_0, .int .i64 a0_1, .int .i64 a0_2, .int .i64 a0_3, .slice (some ad271) l0_4.length c0_4] 52 (0, 0)) Z79) : gb272 ≠ gb270)); clear BK270; clear HB; have BK270 := n0_; have HB := n1_; have BK272 := n2_; have GW272 := n3_; have GE272 := n4_; have NB270_272 := n5_; have NB272_270 := n6_; clear n0_ n1_ n2_ n3_ n4_ n5_ n6_; clear hb hbox hg; (try have hnb21 := NB272_270.out); (try have hnc21 := NB270_272.out); have hcz22_0 : w20.cell? ⟨gb272, 0, none⟩ = some (.int .i64 0) := (blk_cell BK272.out 0).trans rfl; have hcz22_1 : w20.cell? ⟨gb272, 1, none⟩ = some (.int .i64 0) := (blk_cell BK272.out 1).trans rfl; have hcz22_2 : w20.cell? ⟨gb272, 2, none⟩ = some (.bool false) := (blk_cell BK272.out 2).trans rfl; have hcz22_3 : w20.cell? ⟨gb272, 3, none⟩ = some (.int .i64 0) := (blk_cell BK272.out 3).trans rfl; have hcz22_4 : w20.cell? ⟨gb272, 4, none⟩ = some (.int .i64 0) := (blk_cell BK272.out 4).trans rfl; have hcz22_5 : w20.cell? ⟨gb272, 5, none⟩ = some (.int .i64 0) := (blk_cell BK272.out 5).trans rfl; have hfz22_0 := blk_frozen BK272.out 0; have hfz22_1 := blk_frozen BK272.out 1; have hfz22_2 := blk_frozen BK272.out 2; have hfz22_3 := blk_frozen BK272.out 3; have hfz22_4 := blk_frozen BK272.out 4; have hfz22_5 := blk_frozen BK272.out 5))
                    have n0_ : Aside0 (((((((w20.setCell ⟨gb272, 0, none⟩ (.int .i64 ((rd_T136 l0_4 x9_1).f0))).setCell ⟨gb272, 1, none⟩ (.int .i64 ((rd_T136 l0_4 x9_1).f1))).setCell ⟨gb272, 2, none⟩ (.bool true)).setCell ⟨gb272, 3, none⟩ (.int .i64 ((rd_T136 l0_4 x9_1).f3.f0))).setCell ⟨gb272, 4, none⟩ (.int .i64 ((rd_T136 l0_4 x9_1).f3.f1))).setCell ⟨gb272, 5, none⟩ (.int .i64 ((rd_T136 l0_4 x9_1).f3.f2))).heap[gb270]? = some (.cells #[.int .i64 a0_0, .int .i64 a0_1, .int .i64 a0_2, .int .i64 a0_3, .slice (some ad271) l0_4.length c0_4] 52 (0, 0))) := ⟨by (with_reducible repeat (first | refine blk_drewN ?_ _ | refine blk_drew ?_ | refine blk_alloc ?_ _)); refine blk_far ?_ NB270_272.out _; (with_reducible repeat (first | refine blk_drewN ?_ _ | refine blk_drew ?_ | refine blk_alloc ?_ _)); refine blk_far ?_ NB270_272.out _; (with_reducible repeat (first | refine blk_drewN ?_ _ | refine blk_drew ?_ | refine blk_alloc ?_ _)); refine blk_far ?_ NB270_272.out _; (with_reducible repeat (first | refine blk_drewN ?_ _ | refine blk_drew ?_ | refine blk_alloc ?_ _)); refine blk_far ?_ NB270_272.out _; (with_reducible repeat (first | refine blk_drewN ?_ _ | refine blk_drew ?_ | refine blk_alloc ?_ _)); refine blk_far ?_ NB270_272.out _; (with_reducible repeat (first | refine blk_drewN ?_ _ | refine blk_drew ?_ | refine blk_alloc ?_ _)); refine blk_far ?_ NB270_272.out _; (with_reducible repeat (first | refine blk_drewN ?_ _ | refine blk_drew ?_ | refine blk_alloc ?_ _)); exact BK270.out⟩
                    have n1_ : Aside0 (((((((w20.setCell ⟨gb272, 0, none⟩ (.int .i64 ((rd_T136 l0_4 x9_1).f0))).setCell ⟨gb272, 1, none⟩ (.int .i64 ((rd_T136 l0_4 x9_1).f1))).setCell ⟨gb272, 2, none⟩ (.bool true)).setCell ⟨gb272, 3, none⟩ (.int .i64 ((rd_T136 l0_4 x9_1).f3.f0))).setCell ⟨gb272, 4, none⟩ (.int .i64 ((rd_T136 l0_4 x9_1).f3.f1))).setCell ⟨gb272, 5, none⟩ (.int .i64 ((rd_T136 l0_4 x9_1).f3.f2))).heap[gb272]? = some (.cells #[.int .i64 ((rd_T136 l0_4 x9_1).f0), .int .i64 ((rd_T136 l0_4 x9_1).f1), .bool true, .int .i64 ((rd_T136 l0_4 x9_1).f3.f0), .int .i64 ((rd_T136 l0_4 x9_1).f3.f1), .int .i64 ((rd_T136 l0_4 x9_1).f3.f2)] 136 (0, 0))) := ⟨by (with_reducible repeat (first | refine blk_drewN ?_ _ | refine blk_drew ?_ | refine blk_alloc ?_ _)); refine blk_put (cs := #[.int .i64 ((rd_T136 l0_4 x9_1).f0), .int .i64 ((rd_T136 l0_4 x9_1).f1), .bool true, .int .i64 ((rd_T136 l0_4 x9_1).f3.f0), .int .i64 ((rd_T136 l0_4 x9_1).f3.f1), .int .i64 0]) ?_ 5 _ rfl; (with_reducible repeat (first | refine blk_drewN ?_ _ | refine blk_drew ?_ | refine blk_alloc ?_ _)); refine blk_put (cs := #[.int .i64 ((rd_T136 l0_4 x9_1).f0), .int .i64 ((rd_T136 l0_4 x9_1).f1), .bool true, .int .i64 ((rd_T136 l0_4 x9_1).f3.f0), .int .i64 0, .int .i64 0]) ?_ 4 _ rfl; (with_reducible repeat (first | refine blk_drewN ?_ _ | refine blk_drew ?_ | refine blk_alloc ?_ _)); refine blk_put (cs := #[.int .i64 ((rd_T136 l0_4 x9_1).f0), .int .i64 ((rd_T136 l0_4 x9_1).f1), .bool true, .int .i64 0, .int .i64 0, .int .i64 0]) ?_ 3 _ rfl; (with_reducible repeat (first | refine blk_drewN ?_ _ | refine blk_drew ?_ | refine blk_alloc ?_ _)); refine blk_put (cs := #[.int .i64 ((rd_T136 l0_4 x9_1).f0), .int .i64 ((rd_T136 l0_4 x9_1).f1), .bool false, .int .i64 0, .int .i64 0, .int .i64 0]) ?_ 2 _ rfl; (with_reducible repeat (first | refine blk_drewN ?_ _ | refine blk_drew ?_ | refine blk_alloc ?_ _)); refine blk_put (cs := #[.int .i64 ((rd_T136 l0_4 x9_1).f0), .int .i64 0, .bool false, .int .i64 0, .int .i64 0, .int .i64 0]) ?_ 1 _ rfl; (with_reducible repeat (first | refine blk_drewN ?_ _ | refine blk_drew ?_ | refine blk_alloc ?_ _)); refine blk_put (cs := #[.int .i64 0, .int .i64 0, .bool false, .int .i64 0, .int .i64 0, .int .i64 0]) ?_ 0 _ rfl; (with_reducible repeat (first | refine blk_drewN ?_ _ | refine blk_drew ?_ | refine blk_alloc ?_ _)); exact BK272.out⟩
                    have n2_ : Aside0 (Below w.heap.size w ((((((w20.setCell ⟨gb272, 0, none⟩ (.int .i64 ((rd_T136 l0_4 x9_1).f0))).setCell ⟨gb272, 1, none⟩ (.int .i64 ((rd_T136 l0_4 x9_1).f1))).setCell ⟨gb272, 2, none⟩ (.bool true)).setCell ⟨gb272, 3, none⟩ (.int .i64 ((rd_T136 l0_4 x9_1).f3.f0))).setCell ⟨gb272, 4, none⟩ (.int .i64 ((rd_T136 l0_4 x9_1).f3.f1))).setCell ⟨gb272, 5, none⟩ (.int .i64 ((rd_T136 l0_4 x9_1).f3.f2)))) := ⟨by repeat (first | (with_reducible first | exact HB.out | apply below_alloc | apply pw_below_drewN | apply below_drew1 | refine below_set ?_ GE270.out | refine below_set ?_ GE272.out) | exact HB.out)⟩
                    (try clear BK270)
                    (try clear BK272)
                    (try clear HB)
                    generalize ((((((w20.setCell ⟨gb272, 0, none⟩ (.int .i64 ((rd_T136 l0_4 x9_1).f0))).setCell ⟨gb272, 1, none⟩ (.int .i64 ((rd_T136 l0_4 x9_1).f1))).setCell ⟨gb272, 2, none⟩ (.bool true)).setCell ⟨gb272, 3, none⟩ (.int .i64 ((rd_T136 l0_4 x9_1).f3.f0))).setCell ⟨gb272, 4, none⟩ (.int .i64 ((rd_T136 l0_4 x9_1).f3.f1))).setCell ⟨gb272, 5, none⟩ (.int .i64 ((rd_T136 l0_4 x9_1).f3.f2))) = w23 at n0_ n1_ n2_ ⊢
                    have BK270 := n0_
                    have BK272 := n1_
                    have HB := n2_
                    clear n0_ n1_ n2_
                    have n0_ := Aside0.mk (blk_drew BK270.out)
                    have n1_ := Aside0.mk (blk_drew BK272.out)
                    have n2_ := Aside0.mk (below_drew1 HB.out)
                    clear BK270
                    clear BK272
                    clear HB
                    have BK270 := n0_
                    have BK272 := n1_
                    have HB := n2_
                    clear n0_ n1_ n2_
                    have p274 : 0 ≤ (x3_1 : Int) := of_decide_eq_true Z97
                    have q274 : x3_1 < (l0_4.length : Int) := of_decide_eq_true Z97
                    obtain ⟨ad274, e274, hx274_0, hx274_1, hx274_2, hx274_3, hx274_4, hx274_5⟩ := at_T136 HR0_4.out x3_1 p274 q274
                    have hw274_5 := hx274_5
                    have hw274_4 := hx274_4
                    have hw274_3 := hx274_3
                    have hw274_2 := hx274_2
                    have hw274_1 := hx274_1
                    have hw274_0 := hx274_0
                    (try rw [← Nbq7.out] at hx274_2)
                    obtain rfl : ad271 = ad274 := (by injection e274)
                    replace hx274_0 := (HB.out.cell (World.block_lt_of_cell? w _ hx274_0)).trans hx274_0
                    replace hx274_1 := (HB.out.cell (World.block_lt_of_cell? w _ hx274_1)).trans hx274_1
                    replace hx274_2 := (HB.out.cell (World.block_lt_of_cell? w _ hx274_2)).trans hx274_2
                    replace hx274_3 := (HB.out.cell (World.block_lt_of_cell? w _ hx274_3)).trans hx274_3
                    replace hx274_4 := (HB.out.cell (World.block_lt_of_cell? w _ hx274_4)).trans hx274_4
                    replace hx274_5 := (HB.out.cell (World.block_lt_of_cell? w _ hx274_5)).trans hx274_5
                    replace p274 := eq_true p274
                    replace q274 := eq_true q274
                    refine start_ (n := 19) (S := fun w' => w'.cell? ⟨gb272, 0, none⟩ = some (.int .i64 ((rd_T136 l0_4 x9_1).f0)) ∧ w'.cell? ⟨gb272, 1, none⟩ = some (.int .i64 ((rd_T136 l0_4 x9_1).f1)) ∧ w'.cell? ⟨gb272, 2, none⟩ = some (.bool true) ∧ w'.cell? ⟨gb272, 3, none⟩ = some (.int .i64 ((rd_T136 l0_4 x9_1).f3.f0)) ∧ w'.cell? ⟨gb272, 4, none⟩ = some (.int .i64 ((rd_T136 l0_4 x9_1).f3.f1)) ∧ w'.cell? ⟨gb272, 5, none⟩ = some (.int .i64 ((rd_T136 l0_4 x9_1).f3.f2)) ∧ w'.cell? ⟨gb270, 0, none⟩ = some (.int .i64 a0_0) ∧ w'.cell? ⟨gb270, 1, none⟩ = some (.int .i64 a0_1) ∧ w'.cell? ⟨gb270, 2, none⟩ = some (.int .i64 a0_2) ∧ w'.cell? ⟨gb270, 3, none⟩ = some (.int .i64 a0_3) ∧ w'.cell? ⟨gb270, 4, none⟩ = some (.slice (some ad271) l0_4.length c0_4) ∧ w'.cell? (ad271.add ((x3_1).toNat * 6)) = some (.int .i64 ((rd_T136 l0_4 x3_1).f0)) ∧ w'.cell? ⟨(ad271.add ((x3_1).toNat * 6)).block, (ad271.add ((x3_1).toNat * 6)).off + 1, none⟩ = some (.int .i64 ((rd_T136 l0_4 x3_1).f1)) ∧ w'.cell? ⟨(ad271.add ((x3_1).toNat * 6)).block, (ad271.add ((x3_1).toNat * 6)).off + 2, none⟩ = some (.bool ((rd_T136 l0_4 x3_1).f2)) ∧ w'.cell? ⟨(ad271.add ((x3_1).toNat * 6)).block, (ad271.add ((x3_1).toNat * 6)).off + 3, none⟩ = some (.int .i64 ((rd_T136 l0_4 x3_1).f3.f0)) ∧ w'.cell? ⟨(ad271.add ((x3_1).toNat * 6)).block, (ad271.add ((x3_1).toNat * 6)).off + 4, none⟩ = some (.int .i64 ((rd_T136 l0_4 x3_1).f3.f1)) ∧ w'.cell? ⟨(ad271.add ((x3_1).toNat * 6)).block, (ad271.add ((x3_1).toNat * 6)).off + 5, none⟩ = some (.int .i64 ((rd_T136 l0_4 x3_1).f3.f2))) (ds := []) (bz 19 0) (by kernel_rfl) rfl (by kernel_rfl) ⟨(blk_cell BK272.out 0).trans rfl, (blk_cell BK272.out 1).trans rfl, (blk_cell BK272.out 2).trans rfl, (blk_cell BK272.out 3).trans rfl, (blk_cell BK272.out 4).trans rfl, (blk_cell BK272.out 5).trans rfl, (blk_cell BK270.out 0).trans rfl, (blk_cell BK270.out 1).trans rfl, (blk_cell BK270.out 2).trans rfl, (blk_cell BK270.out 3).trans rfl, (blk_cell BK270.out 4).trans rfl, ((HB.out.cell (World.block_lt_of_cell? w _ hw274_0)).trans hw274_0), ((HB.out.cell (World.block_lt_of_cell? w _ hw274_1)).trans hw274_1), ((HB.out.cell (World.block_lt_of_cell? w _ hw274_2)).trans hw274_2), ((HB.out.cell (World.block_lt_of_cell? w _ hw274_3)).trans hw274_3), ((HB.out.cell (World.block_lt_of_cell? w _ hw274_4)).trans hw274_4), ((HB.out.cell (World.block_lt_of_cell? w _ hw274_5)).trans hw274_5)⟩ (fun hHeld => ?_); refine with_tabW impl_Fair_pick.tab5 impl_Fair_pick.bits5 (fun HT_ HW_ => ?_)
                    generalize w23.drew = w24 at BK270 BK272 HB hx274_0 hx274_1 hx274_2 hx274_3 hx274_4 hx274_5 hHeld ⊢
                    refine px_ (i := 0) (N := some 14) (bz 19 1) (any_of HT_.out (by kernel_rfl)) ?_
                    refine tx_ (i := 1) (N := some 15) (bz 19 3) rfl rfl (take_ofW HT_.out HW_.out (by kernel_rfl)) hHeld Z86 ?_
                    refine px_ (i := 2) (N := some 16) (bz 19 7) (any_of HT_.out (by kernel_rfl)) ?_
                    refine px_ (i := 3) (N := some 17) (bz 19 15) (any_of HT_.out (by kernel_rfl)) ?_
                    refine px_ (i := 4) (N := some 18) (bz 19 31) (any_of HT_.out (by kernel_rfl)) ?_
                    refine px_ (i := 5) (N := some 19) (bz 19 63) (any_of HT_.out (by kernel_rfl)) ?_
                    refine px_ (i := 6) (N := some 20) (bz 19 127) (any_of HT_.out (by kernel_rfl)) ?_
                    refine px_ (i := 9) (N := some 23) (bz 19 639) (any_of HT_.out (by kernel_rfl)) ?_
                    refine px_ (i := 11) (N := some 25) (bz 19 2687) (any_of HT_.out (by kernel_rfl)) ?_
                    refine tx_ (i := 7) (N := some 21) (bz 19 2815) rfl rfl (take_ofW HT_.out HW_.out (by kernel_rfl)) hHeld Z86 ?_
                    refine tx_ (i := 10) (N := some 24) (bz 19 3839) rfl rfl (take_ofW HT_.out HW_.out (by kernel_rfl)) hHeld Z86 ?_
                    refine px_ (i := 12) (N := some 26) (bz 19 7935) (any_of HT_.out (by kernel_rfl)) ?_
                    refine px_ (i := 13) (N := some 27) (bz 19 16127) (any_of HT_.out (by kernel_rfl)) ?_
                    refine tx_ (i := 14) (N := some 28) (bz 19 32511) rfl rfl (take_ofW HT_.out HW_.out (by kernel_rfl)) hHeld Z86 ?_
                    refine one_ (i := 8) (N := some 22) (bz 19 32767) rfl rfl (one_of HT_.out (by kernel_rfl)) (by decide) (fun K hK => ?_)
                    refine goes_ Try.func98 (by kernel_rfl) rfl #[.agg #[.int .i64 ((rd_T136 l0_4 x9_1).f3.f0), .int .i64 ((rd_T136 l0_4 x9_1).f3.f1), .int .i64 ((rd_T136 l0_4 x9_1).f3.f2)]] (by rfl) rfl rfl Z41 ?_
                    with_reducible refine (impl_VecTop.calls ((rd_T136 l0_4 x9_1).f3.f0) ((rd_T136 l0_4 x9_1).f3.f1) ((rd_T136 l0_4 x9_1).f3.f2) t273 _ A15.out).mono ?_
                    rintro e w25 ⟨rfl, hb⟩
                    refine ⟨_, rfl, ?_⟩
                    have n0_ := Aside0.mk (blk_below (g := gb270) (o := .cells #[.int .i64 a0_0, .int .i64 a0_1, .int .i64 a0_2, .int .i64 a0_3, .slice (some ad271) l0_4.length c0_4] 52 (0, 0)) Z79 hb)
                    have n1_ := Aside0.mk (blk_below (g := gb272) (o := .cells #[.int .i64 ((rd_T136 l0_4 x9_1).f0), .int .i64 ((rd_T136 l0_4 x9_1).f1), .bool true, .int .i64 ((rd_T136 l0_4 x9_1).f3.f0), .int .i64 ((rd_T136 l0_4 x9_1).f3.f1), .int .i64 ((rd_T136 l0_4 x9_1).f3.f2)] 136 (0, 0)) Z80 hb)
                    have n2_ := Aside0.mk (below_step Z17 hb)
                    clear BK270
                    clear BK272
                    clear HB
                    have BK270 := n0_
                    have BK272 := n1_
                    have HB := n2_
                    clear n0_ n1_ n2_
                    (try clear hb)
                    (try clear hb2)
                    (try clear hk)
                    (try clear hi)
                    refine hK.out _ _ ⟨(blk_cell BK272.out 0).trans rfl, (blk_cell BK272.out 1).trans rfl, (blk_cell BK272.out 2).trans rfl, (blk_cell BK272.out 3).trans rfl, (blk_cell BK272.out 4).trans rfl, (blk_cell BK272.out 5).trans rfl, (blk_cell BK270.out 0).trans rfl, (blk_cell BK270.out 1).trans rfl, (blk_cell BK270.out 2).trans rfl, (blk_cell BK270.out 3).trans rfl, (blk_cell BK270.out 4).trans rfl, ((HB.out.cell (World.block_lt_of_cell? w _ hw274_0)).trans hw274_0), ((HB.out.cell (World.block_lt_of_cell? w _ hw274_1)).trans hw274_1), ((HB.out.cell (World.block_lt_of_cell? w _ hw274_2)).trans hw274_2), ((HB.out.cell (World.block_lt_of_cell? w _ hw274_3)).trans hw274_3), ((HB.out.cell (World.block_lt_of_cell? w _ hw274_4)).trans hw274_4), ((HB.out.cell (World.block_lt_of_cell? w _ hw274_5)).trans hw274_5)⟩ (fun hHeld => ?_)
                    clear hK K
                    refine nx_ (N := some 22) ?_
                    refine one_ (i := 15) (N := some 29) (bz 19 65535) rfl rfl (one_of HT_.out (by kernel_rfl)) (by decide) (fun K hK => ?_)
                    refine goes_ Try.func98 (by kernel_rfl) rfl #[.agg #[.int .i64 ((rd_T136 l0_4 x3_1).f3.f0), .int .i64 ((rd_T136 l0_4 x3_1).f3.f1), .int .i64 ((rd_T136 l0_4 x3_1).f3.f2)]] (by rfl) rfl rfl Z41 ?_
                    with_reducible refine (impl_VecTop.calls ((rd_T136 l0_4 x3_1).f3.f0) ((rd_T136 l0_4 x3_1).f3.f1) ((rd_T136 l0_4 x3_1).f3.f2) t275 _ A18.out).mono ?_
                    rintro e w26 ⟨rfl, hb⟩
                    refine ⟨_, rfl, ?_⟩
                    have n0_ := Aside0.mk (blk_below (g := gb270) (o := .cells #[.int .i64 a0_0, .int .i64 a0_1, .int .i64 a0_2, .int .i64 a0_3, .slice (some ad271) l0_4.length c0_4] 52 (0, 0)) Z79 hb)
                    have n1_ := Aside0.mk (blk_below (g := gb272) (o := .cells #[.int .i64 ((rd_T136 l0_4 x9_1).f0), .int .i64 ((rd_T136 l0_4 x9_1).f1), .bool true, .int .i64 ((rd_T136 l0_4 x9_1).f3.f0), .int .i64 ((rd_T136 l0_4 x9_1).f3.f1), .int .i64 ((rd_T136 l0_4 x9_1).f3.f2)] 136 (0, 0)) Z80 hb)
                    have n2_ := Aside0.mk (below_step Z17 hb)
                    clear BK270
                    clear BK272
                    clear HB
                    have BK270 := n0_
                    have BK272 := n1_
                    have HB := n2_
                    clear n0_ n1_ n2_
                    (try clear hb)
                    (try clear hb2)
                    (try clear hk)
                    (try clear hi)
                    refine hK.out _ _ ⟨(blk_cell BK272.out 0).trans rfl, (blk_cell BK272.out 1).trans rfl, (blk_cell BK272.out 2).trans rfl, (blk_cell BK272.out 3).trans rfl, (blk_cell BK272.out 4).trans rfl, (blk_cell BK272.out 5).trans rfl, (blk_cell BK270.out 0).trans rfl, (blk_cell BK270.out 1).trans rfl, (blk_cell BK270.out 2).trans rfl, (blk_cell BK270.out 3).trans rfl, (blk_cell BK270.out 4).trans rfl, ((HB.out.cell (World.block_lt_of_cell? w _ hw274_0)).trans hw274_0), ((HB.out.cell (World.block_lt_of_cell? w _ hw274_1)).trans hw274_1), ((HB.out.cell (World.block_lt_of_cell? w _ hw274_2)).trans hw274_2), ((HB.out.cell (World.block_lt_of_cell? w _ hw274_3)).trans hw274_3), ((HB.out.cell (World.block_lt_of_cell? w _ hw274_4)).trans hw274_4), ((HB.out.cell (World.block_lt_of_cell? w _ hw274_5)).trans hw274_5)⟩ (fun hHeld => ?_)
                    clear hK K
                    refine nx_ (N := some 29) ?_
                    refine px_ (i := 16) (N := some 30) (bz 19 131071) (any_of HT_.out (by kernel_rfl)) ?_
                    refine px_ (i := 17) (N := some 31) (bz 19 262143) (any_of HT_.out (by kernel_rfl)) ?_
                    refine px_ (i := 18) (N := some 32) (bz 19 524287) (any_of HT_.out (by kernel_rfl)) ?_
                    refine done_ (done_of HT_.out (by kernel_rfl)) ?_
                    go_upto_if 32 with (fail)
                    have H := HU19.out
                    clear HU19
                    by_cases c27 : t273 < t275
                    · rw [if_pos c27] at H
                      have c27b0 : decide (t273 < t275) = true := decide_eq_true c27
                      clear c27
                      (first | rw [c27b0] | (simp only [i64_w, i32_w]; rw [c27b0]) | (have cz_ := c27b0; simp only [bne, gt_iff_lt, Int.natCast_pos] at cz_; first | rw [cz_] | (simp only [i64_w, i32_w]; rw [cz_])) | skip)
                      have H' := Aside0.mk H
                      clear H
                      go_wp2
                      go_roundg k1
                      case measure => have := HK1.out; omega
                      case rel => exact ⟨(x9_1), (wrap64 (x9_1 + 1)), Z98, Z98, H', ⟨by have := HK1.out; omega⟩, ⟨by (with_reducible repeat (first | refine blk_drewN ?_ _ | refine blk_drew ?_ | refine blk_alloc ?_ _)); exact BK270.out⟩, ⟨by repeat (first | (with_reducible first | exact HB.out | apply below_alloc | apply pw_below_drewN | apply below_drew1 | refine below_set ?_ GE270.out | refine below_set ?_ GE272.out) | exact HB.out)⟩⟩
                    · rw [if_neg c27] at H
                      have c27b0 : decide (t273 < t275) = false := decide_eq_false c27
                      clear c27
                      (first | rw [c27b0] | (simp only [i64_w, i32_w]; rw [c27b0]) | (have cz_ := c27b0; simp only [bne, gt_iff_lt, Int.natCast_pos] at cz_; first | rw [cz_] | (simp only [i64_w, i32_w]; rw [cz_])) | skip)
                      have H' := Aside0.mk H
                      clear H
                      go_wp2
                      go_roundg k1
                      case measure => have := HK1.out; omega
                      case rel => exact ⟨(x3_1), (wrap64 (x9_1 + 1)), Z98, Z98, H', ⟨by have := HK1.out; omega⟩, ⟨by (with_reducible repeat (first | refine blk_drewN ?_ _ | refine blk_drew ?_ | refine blk_alloc ?_ _)); exact BK270.out⟩, ⟨by repeat (first | (with_reducible first | exact HB.out | apply below_alloc | apply pw_below_drewN | apply below_drew1 | refine below_set ?_ GE270.out | refine below_set ?_ GE272.out) | exact HB.out)⟩⟩
                  · rw [if_neg c17] at H
                    exact absurd H (by simp)
                · rw [if_neg c16] at H
                  exact absurd H (by simp)
            · replace c8 := Bool.eq_false_iff.mpr c8
              subst c8
              have H1 : (impl_Fair_pick.l0 k1 x3_1 l0_4 (l0_4.length : Int) (wrap64 (x9_1 + 1)) a0_0 a0_1 a0_2 a0_3 l0_4) = some r := by rw [if_neg (show ¬ (false = true) by decide)] at H; exact H
              clear H
              have H := H1
              clear H1
              have H' := Aside0.mk H
              clear H
              have p271 : 0 ≤ (x9_1 : Int) := of_decide_eq_true Z97
              have q271 : x9_1 < (l0_4.length : Int) := of_decide_eq_true Z97
              obtain ⟨ad271, e271, hx271_0, hx271_1, hx271_2, hx271_3, hx271_4, hx271_5⟩ := at_T136 HR0_4.out x9_1 p271 q271
              (try rw [← Nbq7.out] at hx271_2)
              cases e271
              replace hx271_0 := (HB.out.cell (World.block_lt_of_cell? w _ hx271_0)).trans hx271_0
              replace hx271_1 := (HB.out.cell (World.block_lt_of_cell? w _ hx271_1)).trans hx271_1
              replace hx271_2 := (HB.out.cell (World.block_lt_of_cell? w _ hx271_2)).trans hx271_2
              replace hx271_3 := (HB.out.cell (World.block_lt_of_cell? w _ hx271_3)).trans hx271_3
              replace hx271_4 := (HB.out.cell (World.block_lt_of_cell? w _ hx271_4)).trans hx271_4
              replace hx271_5 := (HB.out.cell (World.block_lt_of_cell? w _ hx271_5)).trans hx271_5
              replace p271 := eq_true p271
              replace q271 := eq_true q271
              try go_wp2_with (first | ((with_reducible refine gate_dst (N := 5) rfl ?_); refine box_event ?hg (N := 5) ?hd (cs := #[.int .i64 0, .int .i64 0, .bool false, .int .i64 0, .int .i64 0, .int .i64 0]) (t := 136) ?hr ?_; (case hd => rfl); (case hg => rfl); (case hr => first | (go_simp; done) | (go_simp; rfl)); intro gb272 hg w28 hbox hb; have n0_ := Aside0.mk (blk_below (g := gb270) (o := .cells #[.int .i64 a0_0, .int .i64 a0_1, .int .i64 a0_2, .int .i64 a0_3, .slice (some ad271) l0_4.length c0_4] 52 (0, 0)) Z79 hb); have n1_ := Aside0.mk (below_step Z38 hb); have n2_ := Aside0.mk (hbox); have n3_ := Aside0.mk ((by rw [hg]; exact (below_size Z38) : w.heap.size ≤ gb272)); have n4_ := Aside0.mk ((by rw [hg]; exact (below_size Z38) : w.heap.size ≤ gb272)); have n5_ := Aside0.mk ((by rw [hg]; exact Nat.ne_of_lt (blk_lt (g := gb270) (o := .cells #[.int .i64 a0_0, .int .i64 a0_1, .int .i64 a0_2, .int .i64 a0_3, .slice (some ad271) l0_4.length c0_4] 52 (0, 0)) Z79) : gb270 ≠ gb272)); have n6_ := Aside0.mk ((by rw [hg]; exact Nat.ne_of_gt (blk_lt (g := gb270) (o := .cells #[.int .i64 a0_0, .int .i64 a0_1, .int .i64 a0_2, .int .i64 a0_3, .slice (some ad271) l0_4.length c0_4] 52 (0, 0)) Z79) : gb272 ≠ gb270)); clear BK270; clear HB; have BK270 := n0_; have HB := n1_; have BK272 := n2_; have GW272 := n3_; have GE272 := n4_; have NB270_272 := n5_; have NB272_270 := n6_; clear n0_ n1_ n2_ n3_ n4_ n5_ n6_; clear hb hbox hg; (try have hnb29 := NB272_270.out); (try have hnc29 := NB270_272.out); have hcz30_0 : w28.cell? ⟨gb272, 0, none⟩ = some (.int .i64 0) := (blk_cell BK272.out 0).trans rfl; have hcz30_1 : w28.cell? ⟨gb272, 1, none⟩ = some (.int .i64 0) := (blk_cell BK272.out 1).trans rfl; have hcz30_2 : w28.cell? ⟨gb272, 2, none⟩ = some (.bool false) := (blk_cell BK272.out 2).trans rfl; have hcz30_3 : w28.cell? ⟨gb272, 3, none⟩ = some (.int .i64 0) := (blk_cell BK272.out 3).trans rfl; have hcz30_4 : w28.cell? ⟨gb272, 4, none⟩ = some (.int .i64 0) := (blk_cell BK272.out 4).trans rfl; have hcz30_5 : w28.cell? ⟨gb272, 5, none⟩ = some (.int .i64 0) := (blk_cell BK272.out 5).trans rfl; have hfz30_0 := blk_frozen BK272.out 0; have hfz30_1 := blk_frozen BK272.out 1; have hfz30_2 := blk_frozen BK272.out 2; have hfz30_3 := blk_frozen BK272.out 3; have hfz30_4 := blk_frozen BK272.out 4; have hfz30_5 := blk_frozen BK272.out 5))
              have n0_ : Aside0 (((((((w28.setCell ⟨gb272, 0, none⟩ (.int .i64 ((rd_T136 l0_4 x9_1).f0))).setCell ⟨gb272, 1, none⟩ (.int .i64 ((rd_T136 l0_4 x9_1).f1))).setCell ⟨gb272, 2, none⟩ (.bool false)).setCell ⟨gb272, 3, none⟩ (.int .i64 ((rd_T136 l0_4 x9_1).f3.f0))).setCell ⟨gb272, 4, none⟩ (.int .i64 ((rd_T136 l0_4 x9_1).f3.f1))).setCell ⟨gb272, 5, none⟩ (.int .i64 ((rd_T136 l0_4 x9_1).f3.f2))).heap[gb270]? = some (.cells #[.int .i64 a0_0, .int .i64 a0_1, .int .i64 a0_2, .int .i64 a0_3, .slice (some ad271) l0_4.length c0_4] 52 (0, 0))) := ⟨by (with_reducible repeat (first | refine blk_drewN ?_ _ | refine blk_drew ?_ | refine blk_alloc ?_ _)); refine blk_far ?_ NB270_272.out _; (with_reducible repeat (first | refine blk_drewN ?_ _ | refine blk_drew ?_ | refine blk_alloc ?_ _)); refine blk_far ?_ NB270_272.out _; (with_reducible repeat (first | refine blk_drewN ?_ _ | refine blk_drew ?_ | refine blk_alloc ?_ _)); refine blk_far ?_ NB270_272.out _; (with_reducible repeat (first | refine blk_drewN ?_ _ | refine blk_drew ?_ | refine blk_alloc ?_ _)); refine blk_far ?_ NB270_272.out _; (with_reducible repeat (first | refine blk_drewN ?_ _ | refine blk_drew ?_ | refine blk_alloc ?_ _)); refine blk_far ?_ NB270_272.out _; (with_reducible repeat (first | refine blk_drewN ?_ _ | refine blk_drew ?_ | refine blk_alloc ?_ _)); refine blk_far ?_ NB270_272.out _; (with_reducible repeat (first | refine blk_drewN ?_ _ | refine blk_drew ?_ | refine blk_alloc ?_ _)); exact BK270.out⟩
              have n1_ : Aside0 (((((((w28.setCell ⟨gb272, 0, none⟩ (.int .i64 ((rd_T136 l0_4 x9_1).f0))).setCell ⟨gb272, 1, none⟩ (.int .i64 ((rd_T136 l0_4 x9_1).f1))).setCell ⟨gb272, 2, none⟩ (.bool false)).setCell ⟨gb272, 3, none⟩ (.int .i64 ((rd_T136 l0_4 x9_1).f3.f0))).setCell ⟨gb272, 4, none⟩ (.int .i64 ((rd_T136 l0_4 x9_1).f3.f1))).setCell ⟨gb272, 5, none⟩ (.int .i64 ((rd_T136 l0_4 x9_1).f3.f2))).heap[gb272]? = some (.cells #[.int .i64 ((rd_T136 l0_4 x9_1).f0), .int .i64 ((rd_T136 l0_4 x9_1).f1), .bool false, .int .i64 ((rd_T136 l0_4 x9_1).f3.f0), .int .i64 ((rd_T136 l0_4 x9_1).f3.f1), .int .i64 ((rd_T136 l0_4 x9_1).f3.f2)] 136 (0, 0))) := ⟨by (with_reducible repeat (first | refine blk_drewN ?_ _ | refine blk_drew ?_ | refine blk_alloc ?_ _)); refine blk_put (cs := #[.int .i64 ((rd_T136 l0_4 x9_1).f0), .int .i64 ((rd_T136 l0_4 x9_1).f1), .bool false, .int .i64 ((rd_T136 l0_4 x9_1).f3.f0), .int .i64 ((rd_T136 l0_4 x9_1).f3.f1), .int .i64 0]) ?_ 5 _ rfl; (with_reducible repeat (first | refine blk_drewN ?_ _ | refine blk_drew ?_ | refine blk_alloc ?_ _)); refine blk_put (cs := #[.int .i64 ((rd_T136 l0_4 x9_1).f0), .int .i64 ((rd_T136 l0_4 x9_1).f1), .bool false, .int .i64 ((rd_T136 l0_4 x9_1).f3.f0), .int .i64 0, .int .i64 0]) ?_ 4 _ rfl; (with_reducible repeat (first | refine blk_drewN ?_ _ | refine blk_drew ?_ | refine blk_alloc ?_ _)); refine blk_put (cs := #[.int .i64 ((rd_T136 l0_4 x9_1).f0), .int .i64 ((rd_T136 l0_4 x9_1).f1), .bool false, .int .i64 0, .int .i64 0, .int .i64 0]) ?_ 3 _ rfl; (with_reducible repeat (first | refine blk_drewN ?_ _ | refine blk_drew ?_ | refine blk_alloc ?_ _)); refine blk_put (cs := #[.int .i64 ((rd_T136 l0_4 x9_1).f0), .int .i64 ((rd_T136 l0_4 x9_1).f1), .bool false, .int .i64 0, .int .i64 0, .int .i64 0]) ?_ 2 _ rfl; (with_reducible repeat (first | refine blk_drewN ?_ _ | refine blk_drew ?_ | refine blk_alloc ?_ _)); refine blk_put (cs := #[.int .i64 ((rd_T136 l0_4 x9_1).f0), .int .i64 0, .bool false, .int .i64 0, .int .i64 0, .int .i64 0]) ?_ 1 _ rfl; (with_reducible repeat (first | refine blk_drewN ?_ _ | refine blk_drew ?_ | refine blk_alloc ?_ _)); refine blk_put (cs := #[.int .i64 0, .int .i64 0, .bool false, .int .i64 0, .int .i64 0, .int .i64 0]) ?_ 0 _ rfl; (with_reducible repeat (first | refine blk_drewN ?_ _ | refine blk_drew ?_ | refine blk_alloc ?_ _)); exact BK272.out⟩
              have n2_ : Aside0 (Below w.heap.size w ((((((w28.setCell ⟨gb272, 0, none⟩ (.int .i64 ((rd_T136 l0_4 x9_1).f0))).setCell ⟨gb272, 1, none⟩ (.int .i64 ((rd_T136 l0_4 x9_1).f1))).setCell ⟨gb272, 2, none⟩ (.bool false)).setCell ⟨gb272, 3, none⟩ (.int .i64 ((rd_T136 l0_4 x9_1).f3.f0))).setCell ⟨gb272, 4, none⟩ (.int .i64 ((rd_T136 l0_4 x9_1).f3.f1))).setCell ⟨gb272, 5, none⟩ (.int .i64 ((rd_T136 l0_4 x9_1).f3.f2)))) := ⟨by repeat (first | (with_reducible first | exact HB.out | apply below_alloc | apply pw_below_drewN | apply below_drew1 | refine below_set ?_ GE270.out | refine below_set ?_ GE272.out) | exact HB.out)⟩
              (try clear BK270)
              (try clear BK272)
              (try clear HB)
              generalize ((((((w28.setCell ⟨gb272, 0, none⟩ (.int .i64 ((rd_T136 l0_4 x9_1).f0))).setCell ⟨gb272, 1, none⟩ (.int .i64 ((rd_T136 l0_4 x9_1).f1))).setCell ⟨gb272, 2, none⟩ (.bool false)).setCell ⟨gb272, 3, none⟩ (.int .i64 ((rd_T136 l0_4 x9_1).f3.f0))).setCell ⟨gb272, 4, none⟩ (.int .i64 ((rd_T136 l0_4 x9_1).f3.f1))).setCell ⟨gb272, 5, none⟩ (.int .i64 ((rd_T136 l0_4 x9_1).f3.f2))) = w31 at n0_ n1_ n2_ ⊢
              have BK270 := n0_
              have BK272 := n1_
              have HB := n2_
              clear n0_ n1_ n2_
              have n0_ := Aside0.mk (blk_drew BK270.out)
              have n1_ := Aside0.mk (blk_drew BK272.out)
              have n2_ := Aside0.mk (below_drew1 HB.out)
              clear BK270
              clear BK272
              clear HB
              have BK270 := n0_
              have BK272 := n1_
              have HB := n2_
              clear n0_ n1_ n2_
              refine start_ (n := 19) (S := fun w' => w'.cell? ⟨gb272, 0, none⟩ = some (.int .i64 ((rd_T136 l0_4 x9_1).f0)) ∧ w'.cell? ⟨gb272, 1, none⟩ = some (.int .i64 ((rd_T136 l0_4 x9_1).f1)) ∧ w'.cell? ⟨gb272, 2, none⟩ = some (.bool false) ∧ w'.cell? ⟨gb272, 3, none⟩ = some (.int .i64 ((rd_T136 l0_4 x9_1).f3.f0)) ∧ w'.cell? ⟨gb272, 4, none⟩ = some (.int .i64 ((rd_T136 l0_4 x9_1).f3.f1)) ∧ w'.cell? ⟨gb272, 5, none⟩ = some (.int .i64 ((rd_T136 l0_4 x9_1).f3.f2))) (ds := []) (bz 19 0) (by kernel_rfl) rfl (by kernel_rfl) ⟨(blk_cell BK272.out 0).trans rfl, (blk_cell BK272.out 1).trans rfl, (blk_cell BK272.out 2).trans rfl, (blk_cell BK272.out 3).trans rfl, (blk_cell BK272.out 4).trans rfl, (blk_cell BK272.out 5).trans rfl⟩ (fun hHeld => ?_); refine with_tabW impl_Fair_pick.tab5 impl_Fair_pick.bits5 (fun HT_ HW_ => ?_)
              generalize w31.drew = w32 at BK270 BK272 HB hHeld ⊢
              refine px_ (i := 0) (N := some 14) (bz 19 1) (any_of HT_.out (by kernel_rfl)) ?_
              refine tx_ (i := 1) (N := some 15) (bz 19 3) rfl rfl (take_ofW HT_.out HW_.out (by kernel_rfl)) hHeld Z95 ?_
              refine px_ (i := 2) (N := some 16) (bz 19 7) (any_of HT_.out (by kernel_rfl)) ?_
              refine ox_ (i := 3) (N := some 17) (bz 19 15) (any_of HT_.out (by kernel_rfl)) ?_
              refine ox_ (i := 4) (N := some 18) (bz 19 31) (any_of HT_.out (by kernel_rfl)) ?_
              refine ox_ (i := 5) (N := some 19) (bz 19 63) (any_of HT_.out (by kernel_rfl)) ?_
              refine ox_ (i := 6) (N := some 20) (bz 19 127) (any_of HT_.out (by kernel_rfl)) ?_
              refine ox_ (i := 7) (N := some 21) (bz 19 255) (any_of HT_.out (by kernel_rfl)) ?_
              refine ox_ (i := 8) (N := some 22) (bz 19 511) (any_of HT_.out (by kernel_rfl)) ?_
              refine ox_ (i := 9) (N := some 23) (bz 19 1023) (any_of HT_.out (by kernel_rfl)) ?_
              refine ox_ (i := 10) (N := some 24) (bz 19 2047) (any_of HT_.out (by kernel_rfl)) ?_
              refine ox_ (i := 11) (N := some 25) (bz 19 4095) (any_of HT_.out (by kernel_rfl)) ?_
              refine ox_ (i := 12) (N := some 26) (bz 19 8191) (any_of HT_.out (by kernel_rfl)) ?_
              refine ox_ (i := 13) (N := some 27) (bz 19 16383) (any_of HT_.out (by kernel_rfl)) ?_
              refine ox_ (i := 14) (N := some 28) (bz 19 32767) (any_of HT_.out (by kernel_rfl)) ?_
              refine ox_ (i := 15) (N := some 29) (bz 19 65535) (any_of HT_.out (by kernel_rfl)) ?_
              refine ox_ (i := 16) (N := some 30) (bz 19 131071) (any_of HT_.out (by kernel_rfl)) ?_
              refine ox_ (i := 17) (N := some 31) (bz 19 262143) (any_of HT_.out (by kernel_rfl)) ?_
              refine px_ (i := 18) (N := some 32) (bz 19 524287) (any_of HT_.out (by kernel_rfl)) ?_
              refine done_ (done_of HT_.out (by kernel_rfl)) ?_
              try go_wp2
              go_roundg k1
              case measure => have := HK1.out; omega
              case rel => exact ⟨(x3_1), (wrap64 (x9_1 + 1)), Z98, Z98, H', ⟨by have := HK1.out; omega⟩, ⟨by (with_reducible repeat (first | refine blk_drewN ?_ _ | refine blk_drew ?_ | refine blk_alloc ?_ _)); exact BK270.out⟩, ⟨by repeat (first | (with_reducible first | exact HB.out | apply below_alloc | apply pw_below_drewN | apply below_drew1 | refine below_set ?_ GE270.out | refine below_set ?_ GE272.out) | exact HB.out)⟩⟩
          · rw [if_neg c6] at H
            exact absurd H (by simp)
        · rw [if_neg c5] at H
          exact absurd H (by simp)
      · rw [if_neg c4] at H
        have c4b0 : decide (x9_1 < (l0_4.length : Int)) = false := decide_eq_false c4
        clear c4
        obtain rfl := Option.some.inj H
        go_wp2
        go_ret
        exact ⟨by first | rfl | (simp [errW_none, errW_some] <;> rfl) | (simp [*, errW_none, errW_some] <;> rfl), by repeat (first | (with_reducible first | exact HB.out | apply below_alloc | apply pw_below_drewN | apply below_drew1 | refine below_set ?_ GE270.out) | exact HB.out)⟩

/-! ### impl_Fair_isBusy: function 118 -/
def impl_Fair_isBusy.f (k : Nat) (a0_0 : Int) (a0_1 : Int) (a0_2 : Int) (a0_3 : Int) (l0_4 : List (S136)) : Option (Bool) := (impl_Fair_pick.f k a0_0 a0_1 a0_2 a0_3 l0_4).bind fun t277 => (some (decide (t277 ≥ 0)))
set_option maxHeartbeats 8000000 in
set_option maxRecDepth 100000 in
theorem impl_Fair_isBusy.calls (k : Nat) (a0_0 : Int) (a0_1 : Int) (a0_2 : Int) (a0_3 : Int) (A0_4 : Option Addr) (c0_4 : Nat) (l0_4 : List (S136)) (r : Bool) (w : World) (hr0_4 : Kd.C k136 w A0_4 l0_4.length l0_4) (hc0_4 : l0_4.length ≤ c0_4) (h : impl_Fair_isBusy.f k a0_0 a0_1 a0_2 a0_3 l0_4 = some r) :
    Calls Try.prog 118 #[.agg #[.int .i64 a0_0, .int .i64 a0_1, .int .i64 a0_2, .int .i64 a0_3, .slice A0_4 l0_4.length c0_4]] w fun e w' => e = .returned (.bool r) ∧ Below w.heap.size w w' := by
  have hu52 := Try.underlying52
  have HR0_4 := Aside0.mk hr0_4
  have HC0_4 := Aside0.mk hc0_4
  clear hr0_4 hc0_4
  have HB := Aside0.mk (Below.refl w.heap.size w)
  have H : ((impl_Fair_pick.f k a0_0 a0_1 a0_2 a0_3 l0_4).bind fun t277 => (some (decide (t277 ≥ 0)))) = some r := h
  clear h
  replace H := Option.bind_eq_some_iff.mp H
  obtain ⟨t277, A20, H⟩ := H
  replace H : (some (decide (t277 ≥ 0))) = some r := H
  have A2 := Aside0.mk A20
  clear A20
  obtain rfl := Option.some.inj H
  go_enter Try.func118, Try.ntmps118
  go_wp2_with (first | ((with_reducible refine gate_dst (N := 1) rfl ?_); refine box_event ?hg (N := 1) ?hd (cs := #[.int .i64 a0_0, .int .i64 a0_1, .int .i64 a0_2, .int .i64 a0_3, .slice A0_4 l0_4.length c0_4]) (t := 52) ?hr ?_; (case hd => rfl); (case hg => rfl); (case hr => first | (go_simp; done) | (go_simp; rfl)); intro gb276 hg w3 hbox hb; have n0_ := Aside0.mk (below_step Z42 hb); have n1_ := Aside0.mk (hbox); have n2_ := Aside0.mk ((by rw [hg]; exact (below_size Z42) : w.heap.size ≤ gb276)); have n3_ := Aside0.mk ((by rw [hg]; exact (below_size Z42) : w.heap.size ≤ gb276)); clear HB; have HB := n0_; have BK276 := n1_; have GW276 := n2_; have GE276 := n3_; clear n0_ n1_ n2_ n3_; clear hb hbox hg; have hcz4_0 : w3.cell? ⟨gb276, 0, none⟩ = some (.int .i64 a0_0) := (blk_cell BK276.out 0).trans rfl; have hcz4_1 : w3.cell? ⟨gb276, 1, none⟩ = some (.int .i64 a0_1) := (blk_cell BK276.out 1).trans rfl; have hcz4_2 : w3.cell? ⟨gb276, 2, none⟩ = some (.int .i64 a0_2) := (blk_cell BK276.out 2).trans rfl; have hcz4_3 : w3.cell? ⟨gb276, 3, none⟩ = some (.int .i64 a0_3) := (blk_cell BK276.out 3).trans rfl; have hcz4_4 : w3.cell? ⟨gb276, 4, none⟩ = some (.slice A0_4 l0_4.length c0_4) := (blk_cell BK276.out 4).trans rfl; have hfz4_0 := blk_frozen BK276.out 0; have hfz4_1 := blk_frozen BK276.out 1; have hfz4_2 := blk_frozen BK276.out 2; have hfz4_3 := blk_frozen BK276.out 3; have hfz4_4 := blk_frozen BK276.out 4) | ((with_reducible refine gate_callee (f := 156) rfl ?_); refine goesL_ (some 4) rfl rfl Try.func156 (by kernel_rfl) rfl #[.agg #[.int .i64 a0_0, .int .i64 a0_1, .int .i64 a0_2, .int .i64 a0_3, .slice A0_4 l0_4.length c0_4]] rfl Z41 ?_; (with_reducible refine (impl_Fair_pick.calls k a0_0 a0_1 a0_2 a0_3 _ _ l0_4 t277 _ ?side1 ?side2 A2.out).mono ?_); (case side1 => repeat (first | exact (Kd.C_below HR0_4.out HB.out) | (with_reducible refine Kd.C_alloc ?_ _) | (with_reducible refine Kd.C_drewN ?_ _) | (with_reducible refine Kd.C_drew ?_))); (case side2 => exact HC0_4.out); rintro e w5 ⟨rfl, hb⟩; refine ⟨_, rfl, ?_⟩; have n0_ := Aside0.mk (blk_below (g := gb276) (o := .cells #[.int .i64 a0_0, .int .i64 a0_1, .int .i64 a0_2, .int .i64 a0_3, .slice A0_4 l0_4.length c0_4] 52 (0, 0)) (by (with_reducible repeat (first | refine blk_drewN ?_ _ | refine blk_drew ?_ | refine blk_alloc ?_ _)); exact BK276.out) hb); have n1_ := Aside0.mk (below_step (by repeat (first | (with_reducible first | exact HB.out | apply below_alloc | apply pw_below_drewN | apply below_drew1 | refine below_set ?_ GE276.out) | exact HB.out)) hb); clear BK276; clear HB; have BK276 := n0_; have HB := n1_; clear n0_ n1_; (try clear hb); (try clear hb2); (try clear hk); (try clear hi)))
  go_ret
  exact ⟨by first | rfl | (simp [errW_none, errW_some] <;> rfl) | (simp [*, errW_none, errW_some] <;> rfl), by repeat (first | (with_reducible first | exact HB.out | apply below_alloc | apply pw_below_drewN | apply below_drew1 | refine below_set ?_ GE276.out) | exact HB.out)⟩

end Go.Proofs.Yteecolnemffffaa.PFnExactTreeOk
