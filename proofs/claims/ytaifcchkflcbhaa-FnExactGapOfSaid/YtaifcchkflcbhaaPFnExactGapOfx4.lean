-- by a program of this session's, over the kit's words
import Derived.Test.YtaifcchkflcbhaaPFnExactGapOfx0
import Derived.Test.YtaifcchkflcbhaaPFnExactGapOfx1
import Derived.Test.YtaifcchkflcbhaaPFnExactGapOfx3
namespace Go.Proofs.Ytaifcchkflcbhaa.PFnExactGapOf
open Go.RowKit Go.Proofs.YtaifcchkflcbhaaW.PrintWords Go.Proofs.YtaifcchkflcbhaaW.PrintLast Go.Proofs.YtaifcchkflcbhaaW.PrintMore Go.Proofs.YtaifcchkflcbhaaV
attribute [local go_sem] max2_int min2_int max_two min_two max_three min_three max_four min_four   -- for this text's walks alone
set_option linter.unusedVariables false
set_option linter.unusedSimpArgs false

/-! ### spec_l19Sum: function 235 -/
def spec_l19Sum.l0 : Nat → List (S177) → Int → Int → Int → Int → Option (Int × Int × Int)
  | 0, _, _, _, _, _ => none
  | k + 1, x0, x4, x146000, x146001, x146002 => if x4 < (x0.length : Int) then (if 0 ≤ x4 then (spec_l19Sum.l0 k x0 (wrap64 (x4 + 1)) (wrap64 (x146000 + ((rd_T177 x0 x4).f2.f0))) (wrap64 (x146001 + ((rd_T177 x0 x4).f2.f1))) (wrap64 (x146002 + ((rd_T177 x0 x4).f2.f2)))) else (none)) else (some (x146000, x146001, x146002))
def spec_l19Sum.f (k : Nat) (l0 : List (S177)) : Option (Int × Int × Int) := spec_l19Sum.l0 k l0 0 0 0 0
def spec_l19Sum.T5 : Bool × List (List Nat × List Nat) := (true, [([], []), ([0], [0]), ([], []), ([], []), ([2, 3], [2, 3]), ([4], [4]), ([5], [5]), ([6], [6]), ([1, 7], [1, 7]), ([0, 1, 2, 3, 4, 5, 6, 7, 8], []), ([9, 8, 0, 1, 2, 3, 4, 5, 6, 7, 8], [8, 9])])
def spec_l19Sum.B5 : List Nat := [0, 1, 0, 0, 12, 28, 60, 124, 255, 511, 1023]
theorem spec_l19Sum.tab5 : rtab .any (opsOf Try.f235 5) = spec_l19Sum.T5 := by kernel_rfl
theorem spec_l19Sum.bits5 : waitsOk spec_l19Sum.T5.2 spec_l19Sum.B5 = true := by kernel_rfl
def spec_l19Sum.T6 : Bool × List (List Nat × List Nat) := (true, [([], []), ([0], [0]), ([], []), ([], []), ([2, 3], [2, 3]), ([4], [4]), ([5], [5]), ([6], [6]), ([1, 7], [1, 7]), ([0, 1, 2, 3, 4, 5, 6, 7, 8], []), ([9, 8, 0, 1, 2, 3, 4, 5, 6, 7, 8], [8, 9])])
def spec_l19Sum.B6 : List Nat := [0, 1, 0, 0, 12, 28, 60, 124, 255, 511, 1023]
theorem spec_l19Sum.tab6 : rtab .any (opsOf Try.f235 6) = spec_l19Sum.T6 := by kernel_rfl
theorem spec_l19Sum.bits6 : waitsOk spec_l19Sum.T6.2 spec_l19Sum.B6 = true := by kernel_rfl
def spec_l19Sum.T7 : Bool × List (List Nat × List Nat) := (true, [([], []), ([0], [0]), ([], []), ([], []), ([2, 3], [2, 3]), ([4], [4]), ([5], [5]), ([6], [6]), ([1, 7], [1, 7]), ([0, 1, 2, 3, 4, 5, 6, 7, 8], []), ([9, 8, 0, 1, 2, 3, 4, 5, 6, 7, 8], [8, 9])])
def spec_l19Sum.B7 : List Nat := [0, 1, 0, 0, 12, 28, 60, 124, 255, 511, 1023]
theorem spec_l19Sum.tab7 : rtab .any (opsOf Try.f235 7) = spec_l19Sum.T7 := by kernel_rfl
theorem spec_l19Sum.bits7 : waitsOk spec_l19Sum.T7.2 spec_l19Sum.B7 = true := by kernel_rfl
set_option maxHeartbeats 8000000 in
set_option maxRecDepth 100000 in
theorem spec_l19Sum.calls (k : Nat) (A0 : Option Addr) (c0 : Nat) (l0 : List (S177)) (r1 : Int) (r2 : Int) (r3 : Int) (w : World) (hr0 : Kd.C k177 w A0 l0.length l0) (hc0 : l0.length ≤ c0) (h : spec_l19Sum.f k l0 = some (r1, r2, r3)) :
    Calls Try.prog 235 #[.slice A0 l0.length c0] w fun e w' => e = .returned (.agg #[.int .i64 r1, .int .i64 r2, .int .i64 r3]) ∧ Below w.heap.size w w' := by
  have hu48 := Try.underlying48
  have HR0 := Aside0.mk hr0
  have HC0 := Aside0.mk hc0
  clear hr0 hc0
  have HB := Aside0.mk (Below.refl w.heap.size w)
  have H : (spec_l19Sum.l0 k l0 0 0 0 0) = some (r1, r2, r3) := h
  clear h
  have H' := Aside0.mk H
  clear H
  go_enter Try.func235, Try.ntmps235
  go_wp2_with (first | ((with_reducible refine gate_dst (N := 2) rfl ?_); refine box_event ?hg (N := 2) ?hd (cs := #[.int .i64 0, .int .i64 0, .int .i64 0]) (t := 48) ?hr ?_; (case hd => rfl); (case hg => rfl); (case hr => first | (go_simp; done) | (go_simp; rfl)); intro gb144 hg w2 hbox hb; have n0_ := Aside0.mk (below_step (by repeat (first | (with_reducible first | exact HB.out | apply below_alloc | apply pw_below_drewN | apply below_drew1) | exact HB.out)) hb); have n1_ := Aside0.mk (hbox); have n2_ := Aside0.mk ((by rw [hg]; exact (below_size (by repeat (first | (with_reducible first | exact HB.out | apply below_alloc | apply pw_below_drewN | apply below_drew1) | exact HB.out))) : w.heap.size ≤ gb144)); have n3_ := Aside0.mk ((by rw [hg]; exact (below_size (by repeat (first | (with_reducible first | exact HB.out | apply below_alloc | apply pw_below_drewN | apply below_drew1) | exact HB.out))) : w.heap.size ≤ gb144)); clear HB; have HB := n0_; have BK144 := n1_; have GW144 := n2_; have GE144 := n3_; clear n0_ n1_ n2_ n3_; clear hb hbox hg) | ((with_reducible refine gate_dst (N := 3) rfl ?_); refine box_event ?hg (N := 3) ?hd (cs := #[.int .i64 0, .int .i64 0, .int .i64 0]) (t := 48) ?hr ?_; (case hd => rfl); (case hg => rfl); (case hr => first | (go_simp; done) | (go_simp; rfl)); intro gb145 hg w3 hbox hb; have n0_ := Aside0.mk (blk_below (g := gb144) (o := .cells #[.int .i64 0, .int .i64 0, .int .i64 0] 48 (0, 0)) (by (with_reducible repeat (first | refine blk_drewN ?_ _ | refine blk_drew ?_ | refine blk_alloc ?_ _)); exact BK144.out) hb); have n1_ := Aside0.mk (below_step (by repeat (first | (with_reducible first | exact HB.out | apply below_alloc | apply pw_below_drewN | apply below_drew1 | refine below_set ?_ GE144.out) | exact HB.out)) hb); have n2_ := Aside0.mk (hbox); have n3_ := Aside0.mk ((by rw [hg]; exact (below_size (by repeat (first | (with_reducible first | exact HB.out | apply below_alloc | apply pw_below_drewN | apply below_drew1 | refine below_set ?_ GE144.out) | exact HB.out))) : w.heap.size ≤ gb145)); have n4_ := Aside0.mk ((by rw [hg]; exact (below_size (by repeat (first | (with_reducible first | exact HB.out | apply below_alloc | apply pw_below_drewN | apply below_drew1 | refine below_set ?_ GE144.out) | exact HB.out))) : w.heap.size ≤ gb145)); have n5_ := Aside0.mk ((by rw [hg]; exact Nat.ne_of_lt (blk_lt (g := gb144) (o := .cells #[.int .i64 0, .int .i64 0, .int .i64 0] 48 (0, 0)) (by (with_reducible repeat (first | refine blk_drewN ?_ _ | refine blk_drew ?_ | refine blk_alloc ?_ _)); exact BK144.out)) : gb144 ≠ gb145)); have n6_ := Aside0.mk ((by rw [hg]; exact Nat.ne_of_gt (blk_lt (g := gb144) (o := .cells #[.int .i64 0, .int .i64 0, .int .i64 0] 48 (0, 0)) (by (with_reducible repeat (first | refine blk_drewN ?_ _ | refine blk_drew ?_ | refine blk_alloc ?_ _)); exact BK144.out)) : gb145 ≠ gb144)); clear BK144; clear HB; have BK144 := n0_; have HB := n1_; have BK145 := n2_; have GW145 := n3_; have GE145 := n4_; have NB144_145 := n5_; have NB145_144 := n6_; clear n0_ n1_ n2_ n3_ n4_ n5_ n6_; clear hb hbox hg; (try have hnb4 := NB145_144.out); (try have hnc4 := NB144_145.out); have hcz5_0 : w3.cell? ⟨gb145, 0, none⟩ = some (.int .i64 0) := (blk_cell BK145.out 0).trans rfl; have hcz5_1 : w3.cell? ⟨gb145, 1, none⟩ = some (.int .i64 0) := (blk_cell BK145.out 1).trans rfl; have hcz5_2 : w3.cell? ⟨gb145, 2, none⟩ = some (.int .i64 0) := (blk_cell BK145.out 2).trans rfl; have hfz5_0 := blk_frozen BK145.out 0; have hfz5_1 := blk_frozen BK145.out 1; have hfz5_2 := blk_frozen BK145.out 2))
  go_loopg [4] k (fun kq v4 w' => ∃ (x4_1 : Int) (x146000_1 : Int) (x146001_1 : Int) (x146002_1 : Int), v4 = .int .i64 x4_1 ∧ Aside0 (spec_l19Sum.l0 kq l0 x4_1 x146000_1 x146001_1 x146002_1 = some (r1, r2, r3)) ∧ Aside0 (kq ≤ k) ∧ Aside0 (w'.heap[gb144]? = some (.cells #[.int .i64 0, .int .i64 0, .int .i64 0] 48 (0, 0))) ∧ Aside0 (w'.heap[gb145]? = some (.cells #[.int .i64 x146000_1, .int .i64 x146001_1, .int .i64 x146002_1] 48 (0, 0))) ∧ Aside0 (Below w.heap.size w w'))
  case atStart => exact ⟨(0), (0), (0), (0), (by first | rfl | (simp; done) | (simp [*]; done)), H', ⟨Nat.le_refl _⟩, ⟨by (with_reducible repeat (first | refine blk_drewN ?_ _ | refine blk_drew ?_ | refine blk_alloc ?_ _)); refine blk_far ?_ NB144_145.out _; (with_reducible repeat (first | refine blk_drewN ?_ _ | refine blk_drew ?_ | refine blk_alloc ?_ _)); refine blk_far ?_ NB144_145.out _; (with_reducible repeat (first | refine blk_drewN ?_ _ | refine blk_drew ?_ | refine blk_alloc ?_ _)); refine blk_far ?_ NB144_145.out _; (with_reducible repeat (first | refine blk_drewN ?_ _ | refine blk_drew ?_ | refine blk_alloc ?_ _)); exact BK144.out⟩, ⟨by (with_reducible repeat (first | refine blk_drewN ?_ _ | refine blk_drew ?_ | refine blk_alloc ?_ _)); refine blk_put (cs := #[.int .i64 0, .int .i64 0, .int .i64 0]) ?_ 2 _ rfl; (with_reducible repeat (first | refine blk_drewN ?_ _ | refine blk_drew ?_ | refine blk_alloc ?_ _)); refine blk_put (cs := #[.int .i64 0, .int .i64 0, .int .i64 0]) ?_ 1 _ rfl; (with_reducible repeat (first | refine blk_drewN ?_ _ | refine blk_drew ?_ | refine blk_alloc ?_ _)); refine blk_put (cs := #[.int .i64 0, .int .i64 0, .int .i64 0]) ?_ 0 _ rfl; (with_reducible repeat (first | refine blk_drewN ?_ _ | refine blk_drew ?_ | refine blk_alloc ?_ _)); exact BK145.out⟩, ⟨by repeat (first | (with_reducible first | exact HB.out | apply below_alloc | apply pw_below_drewN | apply below_drew1 | refine below_set ?_ GE144.out | refine below_set ?_ GE145.out) | exact HB.out)⟩⟩
  case round =>
    clear H'
    try clear c2
    try clear p2
    try clear c4
    try clear hcz5_0
    try clear hcz5_1
    try clear hcz5_2
    try clear hfz5_0
    try clear hfz5_1
    try clear hfz5_2
    obtain ⟨x4_1, x146000_1, x146001_1, x146002_1, rfl, HA, HK1, BK144, BK145, HB⟩ := hrel
    cases gk with
    | zero => exact absurd HA.out (by simp [spec_l19Sum.l0])
    | succ k1 =>
      have H := HA.out
      clear HA
      simp only [spec_l19Sum.l0] at H
      by_cases c6 : x4_1 < (l0.length : Int)
      · rw [if_pos c6] at H
        have c6b0 : decide (x4_1 < (l0.length : Int)) = true := decide_eq_true c6
        clear c6
        by_cases c7 : 0 ≤ x4_1
        · rw [if_pos c7] at H
          have c7b0 : decide (0 ≤ x4_1) = true := decide_eq_true c7
          clear c7
          have H' := Aside0.mk H
          clear H
          try go_wp2
          have n0_ := Aside0.mk (blk_drew BK144.out)
          have n1_ := Aside0.mk (blk_drew BK145.out)
          have n2_ := Aside0.mk (below_drew1 HB.out)
          clear BK144
          clear BK145
          clear HB
          have BK144 := n0_
          have BK145 := n1_
          have HB := n2_
          clear n0_ n1_ n2_
          have p146 : 0 ≤ (x4_1 : Int) := of_decide_eq_true (by first | (with_reducible assumption) | assumption)
          have q146 : x4_1 < (l0.length : Int) := of_decide_eq_true (by first | (with_reducible assumption) | assumption)
          obtain ⟨ad146, A146_5, c146_5, e146, hx146_0, hx146_1, hx146_2, hx146_3, hx146_4, hx146_5, hl146_5, hi146_5⟩ := at_T177 HR0.out x4_1 p146 q146
          have hw146_5 := hx146_5
          have hw146_4 := hx146_4
          have hw146_3 := hx146_3
          have hw146_2 := hx146_2
          have hw146_1 := hx146_1
          have hw146_0 := hx146_0
          cases e146
          replace hx146_0 := (HB.out.cell (World.block_lt_of_cell? w _ hx146_0)).trans hx146_0
          replace hx146_1 := (HB.out.cell (World.block_lt_of_cell? w _ hx146_1)).trans hx146_1
          replace hx146_2 := (HB.out.cell (World.block_lt_of_cell? w _ hx146_2)).trans hx146_2
          replace hx146_3 := (HB.out.cell (World.block_lt_of_cell? w _ hx146_3)).trans hx146_3
          replace hx146_4 := (HB.out.cell (World.block_lt_of_cell? w _ hx146_4)).trans hx146_4
          replace hx146_5 := (HB.out.cell (World.block_lt_of_cell? w _ hx146_5)).trans hx146_5
          have HR146_5 := Aside0.mk hi146_5
          have HC146_5 := Aside0.mk hl146_5
          clear hi146_5 hl146_5
          replace p146 := eq_true p146
          replace q146 := eq_true q146
          refine start_ (n := 11) (S := fun w' => w'.cell? ⟨gb145, 0, none⟩ = some (.int .i64 x146000_1) ∧ w'.cell? ⟨gb145, 1, none⟩ = some (.int .i64 x146001_1) ∧ w'.cell? ⟨gb145, 2, none⟩ = some (.int .i64 x146002_1) ∧ w'.cell? (ad146.add ((x4_1).toNat * 6)) = some (.int .i64 ((rd_T177 l0 x4_1).f0)) ∧ w'.cell? ⟨(ad146.add ((x4_1).toNat * 6)).block, (ad146.add ((x4_1).toNat * 6)).off + 1, none⟩ = some (.int .i64 ((rd_T177 l0 x4_1).f1)) ∧ w'.cell? ⟨(ad146.add ((x4_1).toNat * 6)).block, (ad146.add ((x4_1).toNat * 6)).off + 2, none⟩ = some (.int .i64 ((rd_T177 l0 x4_1).f2.f0)) ∧ w'.cell? ⟨(ad146.add ((x4_1).toNat * 6)).block, (ad146.add ((x4_1).toNat * 6)).off + 3, none⟩ = some (.int .i64 ((rd_T177 l0 x4_1).f2.f1)) ∧ w'.cell? ⟨(ad146.add ((x4_1).toNat * 6)).block, (ad146.add ((x4_1).toNat * 6)).off + 4, none⟩ = some (.int .i64 ((rd_T177 l0 x4_1).f2.f2)) ∧ w'.cell? ⟨(ad146.add ((x4_1).toNat * 6)).block, (ad146.add ((x4_1).toNat * 6)).off + 5, none⟩ = some (.slice A146_5 ((rd_T177 l0 x4_1).f3).length c146_5)) (ds := [10]) (bz 11 0) (by kernel_rfl) rfl (by kernel_rfl) ⟨(blk_cell BK145.out 0).trans rfl, (blk_cell BK145.out 1).trans rfl, (blk_cell BK145.out 2).trans rfl, ((HB.out.cell (World.block_lt_of_cell? w _ hw146_0)).trans hw146_0), ((HB.out.cell (World.block_lt_of_cell? w _ hw146_1)).trans hw146_1), ((HB.out.cell (World.block_lt_of_cell? w _ hw146_2)).trans hw146_2), ((HB.out.cell (World.block_lt_of_cell? w _ hw146_3)).trans hw146_3), ((HB.out.cell (World.block_lt_of_cell? w _ hw146_4)).trans hw146_4), ((HB.out.cell (World.block_lt_of_cell? w _ hw146_5)).trans hw146_5)⟩ (fun hHeld => ?_); refine with_tabW spec_l19Sum.tab5 spec_l19Sum.bits5 (fun HT_ HW_ => ?_)
          generalize wr.drew = w8 at BK144 BK145 HB HR146_5 hx146_0 hx146_1 hx146_2 hx146_3 hx146_4 hx146_5 hHeld ⊢
          refine px_ (i := 0) (N := some 12) (bz 11 1) (any_of HT_.out (by kernel_rfl)) ?_
          refine px_ (i := 2) (N := some 14) (bz 11 5) (any_of HT_.out (by kernel_rfl)) ?_
          refine px_ (i := 3) (N := some 15) (bz 11 13) (any_of HT_.out (by kernel_rfl)) ?_
          refine px_ (i := 4) (N := some 16) (bz 11 29) (any_of HT_.out (by kernel_rfl)) ?_
          refine px_ (i := 5) (N := some 17) (bz 11 61) (any_of HT_.out (by kernel_rfl)) ?_
          refine px_ (i := 6) (N := some 18) (bz 11 125) (any_of HT_.out (by kernel_rfl)) ?_
          refine tx_ (i := 1) (N := some 13) (bz 11 127) rfl rfl (take_ofW HT_.out HW_.out (by kernel_rfl)) hHeld (by rintro w' ⟨s0, s1, s2, s3, s4, s5, s6, s7, s8⟩; go_simp; with_reducible rfl) ?_
          refine tx_ (i := 7) (N := some 19) (bz 11 255) rfl rfl (take_ofW HT_.out HW_.out (by kernel_rfl)) hHeld (by rintro w' ⟨s0, s1, s2, s3, s4, s5, s6, s7, s8⟩; go_simp; with_reducible rfl) ?_
          refine px_ (i := 8) (N := some 20) (bz 11 511) (any_of HT_.out (by kernel_rfl)) ?_
          refine px_ (i := 9) (N := some 21) (bz 11 1023) (any_of HT_.out (by kernel_rfl)) ?_
          refine last_ (i := 10) (N := none) (bz 11 2047) rfl rfl (one_of HT_.out (by kernel_rfl)) (by decide) (fun K hK => ?_)
          have hs9 : w8.cell? ⟨gb145, 0, none⟩ = some (.int .i64 x146000_1) := (blk_cell BK145.out 0).trans rfl
          have hfs9 := blk_frozen BK145.out 0
          have hns9_0 := NB144_145.out
          have hms9_0 := NB145_144.out
          refine skip_ (w1 := ?_) (by rfl) rfl ?_ ?_
          rotate_left
          · go_simp
            rfl
          refine hK.out _ _ ?_
          clear hK K
          refine done_ (done_of HT_.out (by kernel_rfl)) ?_
          try go_wp2
          have n0_ : Aside0 ((w8.setCell ⟨gb145, 0, none⟩ (.int .i64 (wrap64 (x146000_1 + ((rd_T177 l0 x4_1).f2.f0))))).heap[gb144]? = some (.cells #[.int .i64 0, .int .i64 0, .int .i64 0] 48 (0, 0))) := ⟨by (with_reducible repeat (first | refine blk_drewN ?_ _ | refine blk_drew ?_ | refine blk_alloc ?_ _)); refine blk_far ?_ NB144_145.out _; (with_reducible repeat (first | refine blk_drewN ?_ _ | refine blk_drew ?_ | refine blk_alloc ?_ _)); exact BK144.out⟩
          have n1_ : Aside0 ((w8.setCell ⟨gb145, 0, none⟩ (.int .i64 (wrap64 (x146000_1 + ((rd_T177 l0 x4_1).f2.f0))))).heap[gb145]? = some (.cells #[.int .i64 (wrap64 (x146000_1 + ((rd_T177 l0 x4_1).f2.f0))), .int .i64 x146001_1, .int .i64 x146002_1] 48 (0, 0))) := ⟨by (with_reducible repeat (first | refine blk_drewN ?_ _ | refine blk_drew ?_ | refine blk_alloc ?_ _)); refine blk_put (cs := #[.int .i64 x146000_1, .int .i64 x146001_1, .int .i64 x146002_1]) ?_ 0 _ rfl; (with_reducible repeat (first | refine blk_drewN ?_ _ | refine blk_drew ?_ | refine blk_alloc ?_ _)); exact BK145.out⟩
          have n2_ : Aside0 (Below w.heap.size w (w8.setCell ⟨gb145, 0, none⟩ (.int .i64 (wrap64 (x146000_1 + ((rd_T177 l0 x4_1).f2.f0)))))) := ⟨by repeat (first | (with_reducible first | exact HB.out | apply below_alloc | apply pw_below_drewN | apply below_drew1 | refine below_set ?_ GE144.out | refine below_set ?_ GE145.out) | exact HB.out)⟩
          (try clear BK144)
          (try clear BK145)
          (try clear HB)
          generalize (w8.setCell ⟨gb145, 0, none⟩ (.int .i64 (wrap64 (x146000_1 + ((rd_T177 l0 x4_1).f2.f0))))) = w10 at n0_ n1_ n2_ ⊢
          have BK144 := n0_
          have BK145 := n1_
          have HB := n2_
          clear n0_ n1_ n2_
          have n0_ := Aside0.mk (blk_drew BK144.out)
          have n1_ := Aside0.mk (blk_drew BK145.out)
          have n2_ := Aside0.mk (below_drew1 HB.out)
          clear BK144
          clear BK145
          clear HB
          have BK144 := n0_
          have BK145 := n1_
          have HB := n2_
          clear n0_ n1_ n2_
          have p147 : 0 ≤ (x4_1 : Int) := of_decide_eq_true (by first | (with_reducible assumption) | assumption)
          have q147 : x4_1 < (l0.length : Int) := of_decide_eq_true (by first | (with_reducible assumption) | assumption)
          obtain ⟨ad147, A147_5, c147_5, e147, hx147_0, hx147_1, hx147_2, hx147_3, hx147_4, hx147_5, hl147_5, hi147_5⟩ := at_T177 HR0.out x4_1 p147 q147
          have hw147_5 := hx147_5
          have hw147_4 := hx147_4
          have hw147_3 := hx147_3
          have hw147_2 := hx147_2
          have hw147_1 := hx147_1
          have hw147_0 := hx147_0
          obtain rfl : ad146 = ad147 := (by injection e147)
          replace hx147_0 := (HB.out.cell (World.block_lt_of_cell? w _ hx147_0)).trans hx147_0
          replace hx147_1 := (HB.out.cell (World.block_lt_of_cell? w _ hx147_1)).trans hx147_1
          replace hx147_2 := (HB.out.cell (World.block_lt_of_cell? w _ hx147_2)).trans hx147_2
          replace hx147_3 := (HB.out.cell (World.block_lt_of_cell? w _ hx147_3)).trans hx147_3
          replace hx147_4 := (HB.out.cell (World.block_lt_of_cell? w _ hx147_4)).trans hx147_4
          replace hx147_5 := (HB.out.cell (World.block_lt_of_cell? w _ hx147_5)).trans hx147_5
          have HR147_5 := Aside0.mk hi147_5
          have HC147_5 := Aside0.mk hl147_5
          clear hi147_5 hl147_5
          replace p147 := eq_true p147
          replace q147 := eq_true q147
          refine start_ (n := 11) (S := fun w' => w'.cell? ⟨gb145, 0, none⟩ = some (.int .i64 (wrap64 (x146000_1 + ((rd_T177 l0 x4_1).f2.f0)))) ∧ w'.cell? ⟨gb145, 1, none⟩ = some (.int .i64 x146001_1) ∧ w'.cell? ⟨gb145, 2, none⟩ = some (.int .i64 x146002_1) ∧ w'.cell? (ad146.add ((x4_1).toNat * 6)) = some (.int .i64 ((rd_T177 l0 x4_1).f0)) ∧ w'.cell? ⟨(ad146.add ((x4_1).toNat * 6)).block, (ad146.add ((x4_1).toNat * 6)).off + 1, none⟩ = some (.int .i64 ((rd_T177 l0 x4_1).f1)) ∧ w'.cell? ⟨(ad146.add ((x4_1).toNat * 6)).block, (ad146.add ((x4_1).toNat * 6)).off + 2, none⟩ = some (.int .i64 ((rd_T177 l0 x4_1).f2.f0)) ∧ w'.cell? ⟨(ad146.add ((x4_1).toNat * 6)).block, (ad146.add ((x4_1).toNat * 6)).off + 3, none⟩ = some (.int .i64 ((rd_T177 l0 x4_1).f2.f1)) ∧ w'.cell? ⟨(ad146.add ((x4_1).toNat * 6)).block, (ad146.add ((x4_1).toNat * 6)).off + 4, none⟩ = some (.int .i64 ((rd_T177 l0 x4_1).f2.f2)) ∧ w'.cell? ⟨(ad146.add ((x4_1).toNat * 6)).block, (ad146.add ((x4_1).toNat * 6)).off + 5, none⟩ = some (.slice A147_5 ((rd_T177 l0 x4_1).f3).length c147_5)) (ds := [10]) (bz 11 0) (by kernel_rfl) rfl (by kernel_rfl) ⟨(blk_cell BK145.out 0).trans rfl, (blk_cell BK145.out 1).trans rfl, (blk_cell BK145.out 2).trans rfl, ((HB.out.cell (World.block_lt_of_cell? w _ hw147_0)).trans hw147_0), ((HB.out.cell (World.block_lt_of_cell? w _ hw147_1)).trans hw147_1), ((HB.out.cell (World.block_lt_of_cell? w _ hw147_2)).trans hw147_2), ((HB.out.cell (World.block_lt_of_cell? w _ hw147_3)).trans hw147_3), ((HB.out.cell (World.block_lt_of_cell? w _ hw147_4)).trans hw147_4), ((HB.out.cell (World.block_lt_of_cell? w _ hw147_5)).trans hw147_5)⟩ (fun hHeld => ?_); refine with_tabW spec_l19Sum.tab6 spec_l19Sum.bits6 (fun HT_ HW_ => ?_)
          generalize w10.drew = w11 at BK144 BK145 HB HR147_5 hx147_0 hx147_1 hx147_2 hx147_3 hx147_4 hx147_5 hHeld ⊢
          refine px_ (i := 0) (N := some 22) (bz 11 1) (any_of HT_.out (by kernel_rfl)) ?_
          refine px_ (i := 2) (N := some 24) (bz 11 5) (any_of HT_.out (by kernel_rfl)) ?_
          refine px_ (i := 3) (N := some 25) (bz 11 13) (any_of HT_.out (by kernel_rfl)) ?_
          refine px_ (i := 4) (N := some 26) (bz 11 29) (any_of HT_.out (by kernel_rfl)) ?_
          refine px_ (i := 5) (N := some 27) (bz 11 61) (any_of HT_.out (by kernel_rfl)) ?_
          refine px_ (i := 6) (N := some 28) (bz 11 125) (any_of HT_.out (by kernel_rfl)) ?_
          refine tx_ (i := 1) (N := some 23) (bz 11 127) rfl rfl (take_ofW HT_.out HW_.out (by kernel_rfl)) hHeld (by rintro w' ⟨s0, s1, s2, s3, s4, s5, s6, s7, s8⟩; go_simp; with_reducible rfl) ?_
          refine tx_ (i := 7) (N := some 29) (bz 11 255) rfl rfl (take_ofW HT_.out HW_.out (by kernel_rfl)) hHeld (by rintro w' ⟨s0, s1, s2, s3, s4, s5, s6, s7, s8⟩; go_simp; with_reducible rfl) ?_
          refine px_ (i := 8) (N := some 30) (bz 11 511) (any_of HT_.out (by kernel_rfl)) ?_
          refine px_ (i := 9) (N := some 31) (bz 11 1023) (any_of HT_.out (by kernel_rfl)) ?_
          refine last_ (i := 10) (N := none) (bz 11 2047) rfl rfl (one_of HT_.out (by kernel_rfl)) (by decide) (fun K hK => ?_)
          have hs12 : w11.cell? ⟨gb145, 1, none⟩ = some (.int .i64 x146001_1) := (blk_cell BK145.out 1).trans rfl
          have hfs12 := blk_frozen BK145.out 1
          have hns12_0 := NB144_145.out
          have hms12_0 := NB145_144.out
          refine skip_ (w1 := ?_) (by rfl) rfl ?_ ?_
          rotate_left
          · go_simp
            rfl
          refine hK.out _ _ ?_
          clear hK K
          refine done_ (done_of HT_.out (by kernel_rfl)) ?_
          try go_wp2
          have n0_ : Aside0 ((w11.setCell ⟨gb145, 1, none⟩ (.int .i64 (wrap64 (x146001_1 + ((rd_T177 l0 x4_1).f2.f1))))).heap[gb144]? = some (.cells #[.int .i64 0, .int .i64 0, .int .i64 0] 48 (0, 0))) := ⟨by (with_reducible repeat (first | refine blk_drewN ?_ _ | refine blk_drew ?_ | refine blk_alloc ?_ _)); refine blk_far ?_ NB144_145.out _; (with_reducible repeat (first | refine blk_drewN ?_ _ | refine blk_drew ?_ | refine blk_alloc ?_ _)); exact BK144.out⟩
          have n1_ : Aside0 ((w11.setCell ⟨gb145, 1, none⟩ (.int .i64 (wrap64 (x146001_1 + ((rd_T177 l0 x4_1).f2.f1))))).heap[gb145]? = some (.cells #[.int .i64 (wrap64 (x146000_1 + ((rd_T177 l0 x4_1).f2.f0))), .int .i64 (wrap64 (x146001_1 + ((rd_T177 l0 x4_1).f2.f1))), .int .i64 x146002_1] 48 (0, 0))) := ⟨by (with_reducible repeat (first | refine blk_drewN ?_ _ | refine blk_drew ?_ | refine blk_alloc ?_ _)); refine blk_put (cs := #[.int .i64 (wrap64 (x146000_1 + ((rd_T177 l0 x4_1).f2.f0))), .int .i64 x146001_1, .int .i64 x146002_1]) ?_ 1 _ rfl; (with_reducible repeat (first | refine blk_drewN ?_ _ | refine blk_drew ?_ | refine blk_alloc ?_ _)); exact BK145.out⟩
          have n2_ : Aside0 (Below w.heap.size w (w11.setCell ⟨gb145, 1, none⟩ (.int .i64 (wrap64 (x146001_1 + ((rd_T177 l0 x4_1).f2.f1)))))) := ⟨by repeat (first | (with_reducible first | exact HB.out | apply below_alloc | apply pw_below_drewN | apply below_drew1 | refine below_set ?_ GE144.out | refine below_set ?_ GE145.out) | exact HB.out)⟩
          (try clear BK144)
          (try clear BK145)
          (try clear HB)
          generalize (w11.setCell ⟨gb145, 1, none⟩ (.int .i64 (wrap64 (x146001_1 + ((rd_T177 l0 x4_1).f2.f1))))) = w13 at n0_ n1_ n2_ ⊢
          have BK144 := n0_
          have BK145 := n1_
          have HB := n2_
          clear n0_ n1_ n2_
          have n0_ := Aside0.mk (blk_drew BK144.out)
          have n1_ := Aside0.mk (blk_drew BK145.out)
          have n2_ := Aside0.mk (below_drew1 HB.out)
          clear BK144
          clear BK145
          clear HB
          have BK144 := n0_
          have BK145 := n1_
          have HB := n2_
          clear n0_ n1_ n2_
          have p148 : 0 ≤ (x4_1 : Int) := of_decide_eq_true (by first | (with_reducible assumption) | assumption)
          have q148 : x4_1 < (l0.length : Int) := of_decide_eq_true (by first | (with_reducible assumption) | assumption)
          obtain ⟨ad148, A148_5, c148_5, e148, hx148_0, hx148_1, hx148_2, hx148_3, hx148_4, hx148_5, hl148_5, hi148_5⟩ := at_T177 HR0.out x4_1 p148 q148
          have hw148_5 := hx148_5
          have hw148_4 := hx148_4
          have hw148_3 := hx148_3
          have hw148_2 := hx148_2
          have hw148_1 := hx148_1
          have hw148_0 := hx148_0
          obtain rfl : ad146 = ad148 := (by injection e148)
          replace hx148_0 := (HB.out.cell (World.block_lt_of_cell? w _ hx148_0)).trans hx148_0
          replace hx148_1 := (HB.out.cell (World.block_lt_of_cell? w _ hx148_1)).trans hx148_1
          replace hx148_2 := (HB.out.cell (World.block_lt_of_cell? w _ hx148_2)).trans hx148_2
          replace hx148_3 := (HB.out.cell (World.block_lt_of_cell? w _ hx148_3)).trans hx148_3
          replace hx148_4 := (HB.out.cell (World.block_lt_of_cell? w _ hx148_4)).trans hx148_4
          replace hx148_5 := (HB.out.cell (World.block_lt_of_cell? w _ hx148_5)).trans hx148_5
          have HR148_5 := Aside0.mk hi148_5
          have HC148_5 := Aside0.mk hl148_5
          clear hi148_5 hl148_5
          replace p148 := eq_true p148
          replace q148 := eq_true q148
          refine start_ (n := 11) (S := fun w' => w'.cell? ⟨gb145, 0, none⟩ = some (.int .i64 (wrap64 (x146000_1 + ((rd_T177 l0 x4_1).f2.f0)))) ∧ w'.cell? ⟨gb145, 1, none⟩ = some (.int .i64 (wrap64 (x146001_1 + ((rd_T177 l0 x4_1).f2.f1)))) ∧ w'.cell? ⟨gb145, 2, none⟩ = some (.int .i64 x146002_1) ∧ w'.cell? (ad146.add ((x4_1).toNat * 6)) = some (.int .i64 ((rd_T177 l0 x4_1).f0)) ∧ w'.cell? ⟨(ad146.add ((x4_1).toNat * 6)).block, (ad146.add ((x4_1).toNat * 6)).off + 1, none⟩ = some (.int .i64 ((rd_T177 l0 x4_1).f1)) ∧ w'.cell? ⟨(ad146.add ((x4_1).toNat * 6)).block, (ad146.add ((x4_1).toNat * 6)).off + 2, none⟩ = some (.int .i64 ((rd_T177 l0 x4_1).f2.f0)) ∧ w'.cell? ⟨(ad146.add ((x4_1).toNat * 6)).block, (ad146.add ((x4_1).toNat * 6)).off + 3, none⟩ = some (.int .i64 ((rd_T177 l0 x4_1).f2.f1)) ∧ w'.cell? ⟨(ad146.add ((x4_1).toNat * 6)).block, (ad146.add ((x4_1).toNat * 6)).off + 4, none⟩ = some (.int .i64 ((rd_T177 l0 x4_1).f2.f2)) ∧ w'.cell? ⟨(ad146.add ((x4_1).toNat * 6)).block, (ad146.add ((x4_1).toNat * 6)).off + 5, none⟩ = some (.slice A148_5 ((rd_T177 l0 x4_1).f3).length c148_5)) (ds := [10]) (bz 11 0) (by kernel_rfl) rfl (by kernel_rfl) ⟨(blk_cell BK145.out 0).trans rfl, (blk_cell BK145.out 1).trans rfl, (blk_cell BK145.out 2).trans rfl, ((HB.out.cell (World.block_lt_of_cell? w _ hw148_0)).trans hw148_0), ((HB.out.cell (World.block_lt_of_cell? w _ hw148_1)).trans hw148_1), ((HB.out.cell (World.block_lt_of_cell? w _ hw148_2)).trans hw148_2), ((HB.out.cell (World.block_lt_of_cell? w _ hw148_3)).trans hw148_3), ((HB.out.cell (World.block_lt_of_cell? w _ hw148_4)).trans hw148_4), ((HB.out.cell (World.block_lt_of_cell? w _ hw148_5)).trans hw148_5)⟩ (fun hHeld => ?_); refine with_tabW spec_l19Sum.tab7 spec_l19Sum.bits7 (fun HT_ HW_ => ?_)
          generalize w13.drew = w14 at BK144 BK145 HB HR148_5 hx148_0 hx148_1 hx148_2 hx148_3 hx148_4 hx148_5 hHeld ⊢
          refine px_ (i := 0) (N := some 32) (bz 11 1) (any_of HT_.out (by kernel_rfl)) ?_
          refine px_ (i := 2) (N := some 34) (bz 11 5) (any_of HT_.out (by kernel_rfl)) ?_
          refine px_ (i := 3) (N := some 35) (bz 11 13) (any_of HT_.out (by kernel_rfl)) ?_
          refine px_ (i := 4) (N := some 36) (bz 11 29) (any_of HT_.out (by kernel_rfl)) ?_
          refine px_ (i := 5) (N := some 37) (bz 11 61) (any_of HT_.out (by kernel_rfl)) ?_
          refine px_ (i := 6) (N := some 38) (bz 11 125) (any_of HT_.out (by kernel_rfl)) ?_
          refine tx_ (i := 1) (N := some 33) (bz 11 127) rfl rfl (take_ofW HT_.out HW_.out (by kernel_rfl)) hHeld (by rintro w' ⟨s0, s1, s2, s3, s4, s5, s6, s7, s8⟩; go_simp; with_reducible rfl) ?_
          refine tx_ (i := 7) (N := some 39) (bz 11 255) rfl rfl (take_ofW HT_.out HW_.out (by kernel_rfl)) hHeld (by rintro w' ⟨s0, s1, s2, s3, s4, s5, s6, s7, s8⟩; go_simp; with_reducible rfl) ?_
          refine px_ (i := 8) (N := some 40) (bz 11 511) (any_of HT_.out (by kernel_rfl)) ?_
          refine px_ (i := 9) (N := some 41) (bz 11 1023) (any_of HT_.out (by kernel_rfl)) ?_
          refine last_ (i := 10) (N := none) (bz 11 2047) rfl rfl (one_of HT_.out (by kernel_rfl)) (by decide) (fun K hK => ?_)
          have hs15 : w14.cell? ⟨gb145, 2, none⟩ = some (.int .i64 x146002_1) := (blk_cell BK145.out 2).trans rfl
          have hfs15 := blk_frozen BK145.out 2
          have hns15_0 := NB144_145.out
          have hms15_0 := NB145_144.out
          refine skip_ (w1 := ?_) (by rfl) rfl ?_ ?_
          rotate_left
          · go_simp
            rfl
          refine hK.out _ _ ?_
          clear hK K
          refine done_ (done_of HT_.out (by kernel_rfl)) ?_
          try go_wp2
          go_roundg k1
          case measure => have := HK1.out; omega
          case rel => exact ⟨(wrap64 (x4_1 + 1)), (wrap64 (x146000_1 + ((rd_T177 l0 x4_1).f2.f0))), (wrap64 (x146001_1 + ((rd_T177 l0 x4_1).f2.f1))), (wrap64 (x146002_1 + ((rd_T177 l0 x4_1).f2.f2))), (by first | rfl | (simp; done) | (simp [*]; done)), H', ⟨by have := HK1.out; omega⟩, ⟨by (with_reducible repeat (first | refine blk_drewN ?_ _ | refine blk_drew ?_ | refine blk_alloc ?_ _)); refine blk_far ?_ NB144_145.out _; (with_reducible repeat (first | refine blk_drewN ?_ _ | refine blk_drew ?_ | refine blk_alloc ?_ _)); exact BK144.out⟩, ⟨by (with_reducible repeat (first | refine blk_drewN ?_ _ | refine blk_drew ?_ | refine blk_alloc ?_ _)); refine blk_put (cs := #[.int .i64 (wrap64 (x146000_1 + ((rd_T177 l0 x4_1).f2.f0))), .int .i64 (wrap64 (x146001_1 + ((rd_T177 l0 x4_1).f2.f1))), .int .i64 x146002_1]) ?_ 2 _ rfl; (with_reducible repeat (first | refine blk_drewN ?_ _ | refine blk_drew ?_ | refine blk_alloc ?_ _)); exact BK145.out⟩, ⟨by repeat (first | (with_reducible first | exact HB.out | apply below_alloc | apply pw_below_drewN | apply below_drew1 | refine below_set ?_ GE144.out | refine below_set ?_ GE145.out) | exact HB.out)⟩⟩
        · rw [if_neg c7] at H
          exact absurd H (by simp)
      · rw [if_neg c6] at H
        have c6b0 : decide (x4_1 < (l0.length : Int)) = false := decide_eq_false c6
        clear c6
        simp only [Option.some.injEq, Prod.mk.injEq] at H
        obtain ⟨rfl, rfl, rfl⟩ := H
        (try have hnb16 := NB145_144.out)
        (try have hnc16 := NB144_145.out)
        have hcz17_0 : wr.cell? ⟨gb145, 0, none⟩ = some (.int .i64 x146000_1) := (blk_cell BK145.out 0).trans rfl
        have hcz17_1 : wr.cell? ⟨gb145, 1, none⟩ = some (.int .i64 x146001_1) := (blk_cell BK145.out 1).trans rfl
        have hcz17_2 : wr.cell? ⟨gb145, 2, none⟩ = some (.int .i64 x146002_1) := (blk_cell BK145.out 2).trans rfl
        have hfz17_0 := blk_frozen BK145.out 0
        have hfz17_1 := blk_frozen BK145.out 1
        have hfz17_2 := blk_frozen BK145.out 2
        have hcz18_0 : wr.cell? ⟨gb144, 0, none⟩ = some (.int .i64 0) := (blk_cell BK144.out 0).trans rfl
        have hcz18_1 : wr.cell? ⟨gb144, 1, none⟩ = some (.int .i64 0) := (blk_cell BK144.out 1).trans rfl
        have hcz18_2 : wr.cell? ⟨gb144, 2, none⟩ = some (.int .i64 0) := (blk_cell BK144.out 2).trans rfl
        have hfz18_0 := blk_frozen BK144.out 0
        have hfz18_1 := blk_frozen BK144.out 1
        have hfz18_2 := blk_frozen BK144.out 2
        go_wp2
        refine bodyPost_ret (results_cell_row rfl _ _ gb144 48 #[.int .i64 x146000_1, .int .i64 x146001_1, .int .i64 x146002_1] (0, 0) _ rfl (by (with_reducible repeat (first | refine blk_drewN ?_ _ | refine blk_drew ?_ | refine blk_alloc ?_ _)); refine blk_put (cs := #[.int .i64 x146000_1, .int .i64 x146001_1, .int .i64 0]) ?_ 2 _ rfl; (with_reducible repeat (first | refine blk_drewN ?_ _ | refine blk_drew ?_ | refine blk_alloc ?_ _)); refine blk_put (cs := #[.int .i64 x146000_1, .int .i64 0, .int .i64 0]) ?_ 1 _ rfl; (with_reducible repeat (first | refine blk_drewN ?_ _ | refine blk_drew ?_ | refine blk_alloc ?_ _)); refine blk_put (cs := #[.int .i64 0, .int .i64 0, .int .i64 0]) ?_ 0 _ rfl; (with_reducible repeat (first | refine blk_drewN ?_ _ | refine blk_drew ?_ | refine blk_alloc ?_ _)); exact BK144.out) Try.underlying48 rfl (by kernel_rfl)) rfl ?_
        exact ⟨by first | rfl | (simp [errW_none, errW_some] <;> rfl) | (simp [*, errW_none, errW_some] <;> rfl), by repeat (first | (with_reducible first | exact HB.out | apply below_alloc | apply pw_below_drewN | apply below_drew1 | refine below_set ?_ GE144.out | refine below_set ?_ GE145.out) | exact HB.out)⟩

/-! ### spec_l19Gap: function 111 -/
mutual
def spec_l19Gap.j0 : Nat → List (S177) → List (S177) → Bool → Option (Int)
  | 0, _, _, _ => none
  | k + 1, x0, x1, x18 => if x18 = true then (some (-1)) else ((spec_l19Mains.f k x0).bind fun t151 => ((spec_l19Mains.f k x1).bind fun t154 => (spec_l19Gap.l0 k x0 x1 t151 t154 (-1) 0)))
def spec_l19Gap.l0 : Nat → List (S177) → List (S177) → List Int → List Int → Int → Int → Option (Int)
  | 0, _, _, _, _, _, _ => none
  | k + 1, x0, x1, x5, x6, x7, x8 => if x8 < (x5.length : Int) then (spec_l19Gap.l1 k x0 x1 x5 x6 x7 x8 0) else (some x7)
def spec_l19Gap.l1 : Nat → List (S177) → List (S177) → List Int → List Int → Int → Int → Int → Option (Int)
  | 0, _, _, _, _, _, _, _ => none
  | k + 1, x0, x1, x5, x6, x7, x8, x9 => if x9 < (x6.length : Int) then (if 0 < (x0.length : Int) then ((spec_Stride.f ((rd_T177 x0 0).f1)).bind fun t158 => ((spec_l19Sum.f k x0).bind fun bt159 => ((spec_l13List.f bt159.1 bt159.2.1 bt159.2.2).bind fun t162 => (if 0 ≤ x8 then (if x8 < (x5.length : Int) then (if 0 ≤ (rd x5 x8) then (if (rd x5 x8) < (t162.length : Int) then (if 0 < (x1.length : Int) then ((spec_Stride.f ((rd_T177 x1 0).f1)).bind fun t168 => ((spec_l19Sum.f k x1).bind fun bt169 => ((spec_l13List.f bt169.1 bt169.2.1 bt169.2.2).bind fun t172 => (if 0 ≤ x9 then (if 0 ≤ (rd x6 x9) then (if (rd x6 x9) < (t172.length : Int) then (spec_l19Gap.l1 k x0 x1 x5 x6 (mx (mx x7 (wrap64 ((wrap64 (t158 * (rd t162 (rd x5 x8)))) - (wrap64 (t168 * (rd t172 (rd x6 x9))))))) (wrap64 (-(wrap64 ((wrap64 (t158 * (rd t162 (rd x5 x8)))) - (wrap64 (t168 * (rd t172 (rd x6 x9))))))))) x8 (wrap64 (x9 + 1))) else (none)) else (none)) else (none))))) else (none)) else (none)) else (none)) else (none)) else (none))))) else (none)) else (spec_l19Gap.l0 k x0 x1 x5 x6 x7 (wrap64 (x8 + 1)))
end
def spec_l19Gap.f (k : Nat) (l0 : List (S177)) (l1 : List (S177)) : Option (Int) := (spec_l19One.f k l0).bind fun t149 => (if t149 = true then ((spec_l19One.f k l1).bind fun t150 => (spec_l19Gap.j0 k l0 l1 (!t150))) else (spec_l19Gap.j0 k l0 l1 true))
def spec_l19Gap.T12 : Bool × List (List Nat × List Nat) := (true, [([], []), ([0], [0]), ([1], [1]), ([2], [2]), ([3], [3]), ([], []), ([5, 4], [5]), ([6, 6], [6]), ([], []), ([], []), ([8, 9], [8, 9]), ([10], [10]), ([7, 11], [7, 11]), ([12], [12]), ([4, 13], [4, 13]), ([], []), ([15], [15]), ([16], [16]), ([17], [17]), ([18, 7], [18]), ([], []), ([20, 19], [20]), ([21, 21], [21]), ([], []), ([], []), ([23, 24], [23, 24]), ([25], [25]), ([22, 26], [22, 26]), ([27], [27]), ([19, 28], [19, 28]), ([14, 29], [14, 29]), ([30, 22, 0, 1, 2, 3, 4, 5, 6, 7, 8, 9, 10, 11, 12, 13, 14, 15, 16, 17, 18, 19, 20, 21, 22, 23, 24, 25, 26, 27, 28, 29, 30], [30])])
def spec_l19Gap.B12 : List Nat := [0, 1, 3, 7, 15, 0, 63, 127, 0, 0, 768, 1792, 4095, 8191, 16383, 0, 32768, 98304, 229376, 491775, 0, 2064639, 4161791, 0, 0, 25165824, 58720256, 134185215, 268402943, 536838399, 1073741823, 2147483647]
theorem spec_l19Gap.tab12 : rtab .any (opsOf Try.f111 12) = spec_l19Gap.T12 := by kernel_rfl
theorem spec_l19Gap.bits12 : waitsOk spec_l19Gap.T12.2 spec_l19Gap.B12 = true := by kernel_rfl
set_option maxHeartbeats 8000000 in
set_option maxRecDepth 100000 in
theorem spec_l19Gap.calls (k : Nat) (A0 : Option Addr) (c0 : Nat) (l0 : List (S177)) (A1 : Option Addr) (c1 : Nat) (l1 : List (S177)) (r : Int) (w : World) (hr0 : Kd.C k177 w A0 l0.length l0) (hc0 : l0.length ≤ c0) (hr1 : Kd.C k177 w A1 l1.length l1) (hc1 : l1.length ≤ c1) (h : spec_l19Gap.f k l0 l1 = some r) :
    Calls Try.prog 111 #[.slice A0 l0.length c0, .slice A1 l1.length c1] w fun e w' => e = .returned (.int .i64 r) ∧ Below w.heap.size w w' := by
  have HR0 := Aside0.mk hr0
  have HC0 := Aside0.mk hc0
  clear hr0 hc0
  have HR1 := Aside0.mk hr1
  have HC1 := Aside0.mk hc1
  clear hr1 hc1
  have HB := Aside0.mk (Below.refl w.heap.size w)
  have H : ((spec_l19One.f k l0).bind fun t149 => (if t149 = true then ((spec_l19One.f k l1).bind fun t150 => (spec_l19Gap.j0 k l0 l1 (!t150))) else (spec_l19Gap.j0 k l0 l1 true))) = some r := h
  clear h
  have HC3 := Aside0.mk H
  clear H
  go_enter Try.func111, Try.ntmps111
  go_upto_region 1 with (fail)
  go_cut [18] (fun v18 wc => ∃ (kq : Nat) (x18_2 : Bool), v18 = .bool x18_2 ∧ Aside0 (spec_l19Gap.j0 kq l0 l1 x18_2 = some r) ∧ Aside0 (kq ≤ k) ∧ Aside0 (Below w.heap.size w wc))
  case first =>
    have H := HC3.out
    clear HC3
    replace H := Option.bind_eq_some_iff.mp H
    obtain ⟨t149, A40, H⟩ := H
    replace H : (if t149 = true then ((spec_l19One.f k l1).bind fun t150 => (spec_l19Gap.j0 k l0 l1 (!t150))) else (spec_l19Gap.j0 k l0 l1 true)) = some r := H
    have A4 := Aside0.mk A40
    clear A40
    by_cases c5 : t149 = true
    · subst c5
      have H1 : ((spec_l19One.f k l1).bind fun t150 => (spec_l19Gap.j0 k l0 l1 (!t150))) = some r := by rw [if_pos rfl] at H; exact H
      clear H
      have H := H1
      clear H1
      replace H := Option.bind_eq_some_iff.mp H
      obtain ⟨t150, A60, H⟩ := H
      replace H : (spec_l19Gap.j0 k l0 l1 (!t150)) = some r := H
      have A6 := Aside0.mk A60
      clear A60
      have H' := Aside0.mk H
      clear H
      go_wp2_with (first | ((with_reducible refine gate_callee (f := 231) rfl ?_); refine goesL_ (some 12) rfl rfl Try.func231 (by kernel_rfl) rfl #[.slice A0 l0.length c0] rfl (by (try simp only [List.map_toArray, List.map_cons, List.map_nil]); first | done | rfl | (simp only [List.length_drop, List.length_take]; rfl)) ?_; (with_reducible refine (spec_l19One.calls k _ _ l0 true _ ?side1 ?side2 A4.out).mono ?_); (case side1 => repeat (first | exact (Kd.C_below HR0.out HB.out) | (with_reducible refine Kd.C_alloc ?_ _) | (with_reducible refine Kd.C_drewN ?_ _) | (with_reducible refine Kd.C_drew ?_))); (case side2 => exact HC0.out); rintro e w' ⟨rfl, ⟨nd, rfl⟩⟩; refine ⟨_, rfl, ?_⟩) | (go_at_call 231; (with_reducible refine (spec_l19One.calls k _ _ l1 t150 _ ?side1 ?side2 A6.out).mono ?_); (case side1 => repeat (first | exact (Kd.C_below HR1.out (by repeat (first | (with_reducible first | exact HB.out | apply below_alloc | apply pw_below_drewN | apply below_drew1) | exact HB.out))) | (with_reducible refine Kd.C_alloc ?_ _) | (with_reducible refine Kd.C_drewN ?_ _) | (with_reducible refine Kd.C_drew ?_))); (case side2 => exact HC1.out); rintro e w' ⟨rfl, ⟨nd, rfl⟩⟩))
      go_meet
      case rel => exact ⟨_, (!t150), (by first | rfl | (simp; done) | (simp [*]; done)), H', ⟨by first | omega | exact Nat.le_refl _⟩, ⟨by repeat (first | (with_reducible first | exact HB.out | apply below_alloc | apply pw_below_drewN | apply below_drew1) | exact HB.out)⟩⟩
    · replace c5 := Bool.eq_false_iff.mpr c5
      subst c5
      have H1 : (spec_l19Gap.j0 k l0 l1 true) = some r := by rw [if_neg (show ¬ (false = true) by decide)] at H; exact H
      clear H
      have H := H1
      clear H1
      have H' := Aside0.mk H
      clear H
      go_wp2_with (first | ((with_reducible refine gate_callee (f := 231) rfl ?_); refine goesL_ (some 12) rfl rfl Try.func231 (by kernel_rfl) rfl #[.slice A0 l0.length c0] rfl (by (try simp only [List.map_toArray, List.map_cons, List.map_nil]); first | done | rfl | (simp only [List.length_drop, List.length_take]; rfl)) ?_; (with_reducible refine (spec_l19One.calls k _ _ l0 false _ ?side1 ?side2 A4.out).mono ?_); (case side1 => repeat (first | exact (Kd.C_below HR0.out HB.out) | (with_reducible refine Kd.C_alloc ?_ _) | (with_reducible refine Kd.C_drewN ?_ _) | (with_reducible refine Kd.C_drew ?_))); (case side2 => exact HC0.out); rintro e w' ⟨rfl, ⟨nd, rfl⟩⟩; refine ⟨_, rfl, ?_⟩))
      go_meet
      case rel => exact ⟨_, (true), (by first | rfl | (simp; done) | (simp [*]; done)), H', ⟨by first | omega | exact Nat.le_refl _⟩, ⟨by repeat (first | (with_reducible first | exact HB.out | apply below_alloc | apply pw_below_drewN | apply below_drew1) | exact HB.out)⟩⟩
  case rest =>
    clear HC3
    try clear c1
    try clear c2
    try clear p2
    try clear c5
    obtain ⟨kq, x18_2, rfl, HA, HJ2, HB⟩ := hcut
    cases kq with
    | zero => exact absurd HA.out (by simp [spec_l19Gap.j0])
    | succ kj2 =>
      have H := HA.out
      clear HA
      simp only [spec_l19Gap.j0] at H
      by_cases c7 : x18_2 = true
      · subst c7
        have H1 : (some (-1)) = some r := by rw [if_pos rfl] at H; exact H
        clear H
        have H := H1
        clear H1
        obtain rfl := Option.some.inj H
        go_wp2
        go_ret
        exact ⟨by first | rfl | (simp [errW_none, errW_some] <;> rfl) | (simp [*, errW_none, errW_some] <;> rfl), by repeat (first | (with_reducible first | exact HB.out | apply below_alloc | apply pw_below_drewN | apply below_drew1) | exact HB.out)⟩
      · replace c7 := Bool.eq_false_iff.mpr c7
        subst c7
        have H1 : ((spec_l19Mains.f kj2 l0).bind fun t151 => ((spec_l19Mains.f kj2 l1).bind fun t154 => (spec_l19Gap.l0 kj2 l0 l1 t151 t154 (-1) 0))) = some r := by rw [if_neg (show ¬ (false = true) by decide)] at H; exact H
        clear H
        have H := H1
        clear H1
        replace H := Option.bind_eq_some_iff.mp H
        obtain ⟨t151, A80, H⟩ := H
        replace H : ((spec_l19Mains.f kj2 l1).bind fun t154 => (spec_l19Gap.l0 kj2 l0 l1 t151 t154 (-1) 0)) = some r := H
        have A8 := Aside0.mk A80
        clear A80
        replace H := Option.bind_eq_some_iff.mp H
        obtain ⟨t154, A90, H⟩ := H
        replace H : (spec_l19Gap.l0 kj2 l0 l1 t151 t154 (-1) 0) = some r := H
        have A9 := Aside0.mk A90
        clear A90
        have H' := Aside0.mk H
        clear H
        go_wp2_with (first | ((with_reducible refine gate_callee (f := 232) rfl ?_); refine goesL_ (some 20) rfl rfl Try.func232 (by kernel_rfl) rfl #[.slice A0 l0.length c0] rfl (by (try simp only [List.map_toArray, List.map_cons, List.map_nil]); first | done | rfl | (simp only [List.length_drop, List.length_take]; rfl)) ?_; (with_reducible refine (spec_l19Mains.calls kj2 _ _ l0 t151 _ ?side1 ?side2 A8.out).mono ?_); (case side1 => repeat (first | exact (Kd.C_below HR0.out HB.out) | (with_reducible refine Kd.C_alloc ?_ _) | (with_reducible refine Kd.C_drewN ?_ _) | (with_reducible refine Kd.C_drew ?_))); (case side2 => exact HC0.out); rintro e w10 ⟨v152, rfl, ho0, hb⟩; refine ⟨_, rfl, ?_⟩; have n0_ := Aside0.mk (Kd.R_lower ho0 (below_size (by repeat (first | (with_reducible first | exact HB.out | apply below_alloc | apply pw_below_drewN | apply below_drew1) | exact HB.out)))); have n1_ := Aside0.mk (below_step (by repeat (first | (with_reducible first | exact HB.out | apply below_alloc | apply pw_below_drewN | apply below_drew1) | exact HB.out)) hb); clear HB; have HO153 := n0_; have HB := n1_; clear n0_ n1_; (try clear hb); (try clear hb2); (try clear hk); (try clear hi); (try clear ho0)) | ((with_reducible refine gate_callee (f := 232) rfl ?_); refine goesL_ (some 22) rfl rfl Try.func232 (by kernel_rfl) rfl #[.slice A1 l1.length c1] rfl (by (try simp only [List.map_toArray, List.map_cons, List.map_nil]); first | done | rfl | (simp only [List.length_drop, List.length_take]; rfl)) ?_; (with_reducible refine (spec_l19Mains.calls kj2 _ _ l1 t154 _ ?side1 ?side2 A9.out).mono ?_); (case side1 => repeat (first | exact (Kd.C_below HR1.out HB.out) | (with_reducible refine Kd.C_alloc ?_ _) | (with_reducible refine Kd.C_drewN ?_ _) | (with_reducible refine Kd.C_drew ?_))); (case side2 => exact HC1.out); rintro e w11 ⟨v155, rfl, ho0, hb⟩; refine ⟨_, rfl, ?_⟩; have n0_ := Aside0.mk (Kd.R_elder' (by (with_reducible repeat (first | apply Kd.R_alloc | apply Kd.R_drewN | apply Kd.R_drew)); exact HO153.out) (Kd.R_base ho0) hb); have n1_ := Aside0.mk (Kd.R_lower (Kd.R_new' ho0 (Kd.R_lt (by (with_reducible repeat (first | apply Kd.R_alloc | apply Kd.R_drewN | apply Kd.R_drew)); exact HO153.out))) (below_size (by repeat (first | (with_reducible first | exact HB.out | apply below_alloc | apply pw_below_drewN | apply below_drew1) | exact HB.out)))); have n2_ := Aside0.mk (below_step (by repeat (first | (with_reducible first | exact HB.out | apply below_alloc | apply pw_below_drewN | apply below_drew1) | exact HB.out)) hb); clear HO153; clear HB; have HO153 := n0_; have HO156 := n1_; have HB := n2_; clear n0_ n1_ n2_; (try clear hb); (try clear hb2); (try clear hk); (try clear hi); (try clear ho0)))
        go_loopg [7, 8] kj2 (fun kq v7 v8 w' => ∃ (x7_2 : Int) (x8_2 : Int), v7 = .int .i64 x7_2 ∧ v8 = .int .i64 x8_2 ∧ Aside0 (spec_l19Gap.l0 kq l0 l1 t151 t154 x7_2 x8_2 = some r) ∧ Aside0 (kq ≤ kj2) ∧ Aside0 (Kd.R (Kd.int .i64) 3 w' w.heap.size (fun k_ => some k_ ≠ (v155 : Value).ownBlock) v152 t151) ∧ Aside0 (Kd.R (Kd.int .i64) 3 w' w.heap.size (fun k_ => some k_ ≠ (v152 : Value).ownBlock) v155 t154) ∧ Aside0 (Below w.heap.size w w'))
        case atStart => exact ⟨((-1)), (0), (by first | rfl | (simp; done) | (simp [*]; done)), (by first | rfl | (simp; done) | (simp [*]; done)), H', ⟨Nat.le_refl _⟩, ⟨by (with_reducible repeat (first | apply Kd.R_alloc | apply Kd.R_drewN | apply Kd.R_drew)); exact Kd.R_mono HO153.out (fun _ hk => hk.2)⟩, ⟨by (with_reducible repeat (first | apply Kd.R_alloc | apply Kd.R_drewN | apply Kd.R_drew)); exact Kd.R_mono HO156.out (fun _ hk => hk.2)⟩, ⟨by repeat (first | (with_reducible first | exact HB.out | apply below_alloc | apply pw_below_drewN | apply below_drew1) | exact HB.out)⟩⟩
        case round =>
          clear H'
          try clear c1
          try clear c2
          try clear p2
          try clear c5
          try clear c7
          try clear c11
          try clear p2
          obtain ⟨x7_2, x8_2, rfl, rfl, HA, HK2, HO_5, HO_6, HB⟩ := hrel
          cases gk with
          | zero => exact absurd HA.out (by simp [spec_l19Gap.l0])
          | succ k2 =>
            have H := HA.out
            clear HA
            simp only [spec_l19Gap.l0] at H
            by_cases c12 : x8_2 < (t151.length : Int)
            · rw [if_pos c12] at H
              have c12b0 : decide (x8_2 < (t151.length : Int)) = true := decide_eq_true c12
              clear c12
              have H' := Aside0.mk H
              clear H
              obtain ⟨Ao13, co13, eo13⟩ := Kd.R_slice HO_5.out
              subst eo13
              go_wp2
              go_loopg [7, 9] k2 (fun kq v7 v9 w' => ∃ (x7_3 : Int) (x9_3 : Int), v7 = .int .i64 x7_3 ∧ v9 = .int .i64 x9_3 ∧ Aside0 (spec_l19Gap.l1 kq l0 l1 t151 t154 x7_3 x8_2 x9_3 = some r) ∧ Aside0 (kq ≤ k2) ∧ Aside0 (Kd.R (Kd.int .i64) 3 w' w.heap.size (fun k_ => some k_ ≠ (v155 : Value).ownBlock) (.slice Ao13 t151.length co13) t151) ∧ Aside0 (Kd.R (Kd.int .i64) 3 w' w.heap.size (fun k_ => some k_ ≠ ((.slice Ao13 t151.length co13) : Value).ownBlock) v155 t154) ∧ Aside0 (Below w.heap.size w w'))
              case atStart => exact ⟨(x7_2), (0), (by first | rfl | (simp; done) | (simp [*]; done)), (by first | rfl | (simp; done) | (simp [*]; done)), H', ⟨Nat.le_refl _⟩, ⟨by (with_reducible repeat (first | apply Kd.R_alloc | apply Kd.R_drewN | apply Kd.R_drew)); exact HO_5.out⟩, ⟨by (with_reducible repeat (first | apply Kd.R_alloc | apply Kd.R_drewN | apply Kd.R_drew)); exact HO_6.out⟩, ⟨by repeat (first | (with_reducible first | exact HB.out | apply below_alloc | apply pw_below_drewN | apply below_drew1) | exact HB.out)⟩⟩
              case round =>
                clear H'
                try clear c1
                try clear c2
                try clear p2
                try clear c5
                try clear c7
                try clear c11
                try clear c12
                try clear c12b0
                try clear p2
                obtain ⟨x7_3, x9_3, rfl, rfl, HA, HK3, HO_5, HO_6, HB⟩ := hrel
                cases gk with
                | zero => exact absurd HA.out (by simp [spec_l19Gap.l1])
                | succ k3 =>
                  have H := HA.out
                  clear HA
                  simp only [spec_l19Gap.l1] at H
                  by_cases c14 : x9_3 < (t154.length : Int)
                  · rw [if_pos c14] at H
                    have c14b0 : decide (x9_3 < (t154.length : Int)) = true := decide_eq_true c14
                    clear c14
                    by_cases c15 : 0 < (l0.length : Int)
                    · rw [if_pos c15] at H
                      have c15b0 : decide (0 < (l0.length : Int)) = true := decide_eq_true c15
                      have c15b1 : decide (0 < l0.length) = true := decide_eq_true (by omega)
                      clear c15
                      replace H := Option.bind_eq_some_iff.mp H
                      obtain ⟨t158, A160, H⟩ := H
                      replace H : ((spec_l19Sum.f k3 l0).bind fun bt159 => ((spec_l13List.f bt159.1 bt159.2.1 bt159.2.2).bind fun t162 => (if 0 ≤ x8_2 then (if x8_2 < (t151.length : Int) then (if 0 ≤ (rd t151 x8_2) then (if (rd t151 x8_2) < (t162.length : Int) then (if 0 < (l1.length : Int) then ((spec_Stride.f ((rd_T177 l1 0).f1)).bind fun t168 => ((spec_l19Sum.f k3 l1).bind fun bt169 => ((spec_l13List.f bt169.1 bt169.2.1 bt169.2.2).bind fun t172 => (if 0 ≤ x9_3 then (if 0 ≤ (rd t154 x9_3) then (if (rd t154 x9_3) < (t172.length : Int) then (spec_l19Gap.l1 k3 l0 l1 t151 t154 (mx (mx x7_3 (wrap64 ((wrap64 (t158 * (rd t162 (rd t151 x8_2)))) - (wrap64 (t168 * (rd t172 (rd t154 x9_3))))))) (wrap64 (-(wrap64 ((wrap64 (t158 * (rd t162 (rd t151 x8_2)))) - (wrap64 (t168 * (rd t172 (rd t154 x9_3))))))))) x8_2 (wrap64 (x9_3 + 1))) else (none)) else (none)) else (none))))) else (none)) else (none)) else (none)) else (none)) else (none)))) = some r := H
                      have A16 := Aside0.mk A160
                      clear A160
                      replace H := Option.bind_eq_some_iff.mp H
                      obtain ⟨⟨t159, t160, t161⟩, A170, H⟩ := H
                      replace H : ((spec_l13List.f t159 t160 t161).bind fun t162 => (if 0 ≤ x8_2 then (if x8_2 < (t151.length : Int) then (if 0 ≤ (rd t151 x8_2) then (if (rd t151 x8_2) < (t162.length : Int) then (if 0 < (l1.length : Int) then ((spec_Stride.f ((rd_T177 l1 0).f1)).bind fun t168 => ((spec_l19Sum.f k3 l1).bind fun bt169 => ((spec_l13List.f bt169.1 bt169.2.1 bt169.2.2).bind fun t172 => (if 0 ≤ x9_3 then (if 0 ≤ (rd t154 x9_3) then (if (rd t154 x9_3) < (t172.length : Int) then (spec_l19Gap.l1 k3 l0 l1 t151 t154 (mx (mx x7_3 (wrap64 ((wrap64 (t158 * (rd t162 (rd t151 x8_2)))) - (wrap64 (t168 * (rd t172 (rd t154 x9_3))))))) (wrap64 (-(wrap64 ((wrap64 (t158 * (rd t162 (rd t151 x8_2)))) - (wrap64 (t168 * (rd t172 (rd t154 x9_3))))))))) x8_2 (wrap64 (x9_3 + 1))) else (none)) else (none)) else (none))))) else (none)) else (none)) else (none)) else (none)) else (none))) = some r := H
                      have A17 := Aside0.mk A170
                      clear A170
                      replace H := Option.bind_eq_some_iff.mp H
                      obtain ⟨t162, A180, H⟩ := H
                      replace H : (if 0 ≤ x8_2 then (if x8_2 < (t151.length : Int) then (if 0 ≤ (rd t151 x8_2) then (if (rd t151 x8_2) < (t162.length : Int) then (if 0 < (l1.length : Int) then ((spec_Stride.f ((rd_T177 l1 0).f1)).bind fun t168 => ((spec_l19Sum.f k3 l1).bind fun bt169 => ((spec_l13List.f bt169.1 bt169.2.1 bt169.2.2).bind fun t172 => (if 0 ≤ x9_3 then (if 0 ≤ (rd t154 x9_3) then (if (rd t154 x9_3) < (t172.length : Int) then (spec_l19Gap.l1 k3 l0 l1 t151 t154 (mx (mx x7_3 (wrap64 ((wrap64 (t158 * (rd t162 (rd t151 x8_2)))) - (wrap64 (t168 * (rd t172 (rd t154 x9_3))))))) (wrap64 (-(wrap64 ((wrap64 (t158 * (rd t162 (rd t151 x8_2)))) - (wrap64 (t168 * (rd t172 (rd t154 x9_3))))))))) x8_2 (wrap64 (x9_3 + 1))) else (none)) else (none)) else (none))))) else (none)) else (none)) else (none)) else (none)) else (none)) = some r := H
                      have A18 := Aside0.mk A180
                      clear A180
                      by_cases c19 : 0 ≤ x8_2
                      · rw [if_pos c19] at H
                        have c19b0 : decide (0 ≤ x8_2) = true := decide_eq_true c19
                        clear c19
                        by_cases c20 : x8_2 < (t151.length : Int)
                        · rw [if_pos c20] at H
                          have c20b0 : decide (x8_2 < (t151.length : Int)) = true := decide_eq_true c20
                          clear c20
                          by_cases c21 : 0 ≤ (rd t151 x8_2)
                          · rw [if_pos c21] at H
                            have c21b0 : decide (0 ≤ (rd t151 x8_2)) = true := decide_eq_true c21
                            clear c21
                            by_cases c22 : (rd t151 x8_2) < (t162.length : Int)
                            · rw [if_pos c22] at H
                              have c22b0 : decide ((rd t151 x8_2) < (t162.length : Int)) = true := decide_eq_true c22
                              clear c22
                              by_cases c23 : 0 < (l1.length : Int)
                              · rw [if_pos c23] at H
                                have c23b0 : decide (0 < (l1.length : Int)) = true := decide_eq_true c23
                                have c23b1 : decide (0 < l1.length) = true := decide_eq_true (by omega)
                                clear c23
                                replace H := Option.bind_eq_some_iff.mp H
                                obtain ⟨t168, A240, H⟩ := H
                                replace H : ((spec_l19Sum.f k3 l1).bind fun bt169 => ((spec_l13List.f bt169.1 bt169.2.1 bt169.2.2).bind fun t172 => (if 0 ≤ x9_3 then (if 0 ≤ (rd t154 x9_3) then (if (rd t154 x9_3) < (t172.length : Int) then (spec_l19Gap.l1 k3 l0 l1 t151 t154 (mx (mx x7_3 (wrap64 ((wrap64 (t158 * (rd t162 (rd t151 x8_2)))) - (wrap64 (t168 * (rd t172 (rd t154 x9_3))))))) (wrap64 (-(wrap64 ((wrap64 (t158 * (rd t162 (rd t151 x8_2)))) - (wrap64 (t168 * (rd t172 (rd t154 x9_3))))))))) x8_2 (wrap64 (x9_3 + 1))) else (none)) else (none)) else (none)))) = some r := H
                                have A24 := Aside0.mk A240
                                clear A240
                                replace H := Option.bind_eq_some_iff.mp H
                                obtain ⟨⟨t169, t170, t171⟩, A250, H⟩ := H
                                replace H : ((spec_l13List.f t169 t170 t171).bind fun t172 => (if 0 ≤ x9_3 then (if 0 ≤ (rd t154 x9_3) then (if (rd t154 x9_3) < (t172.length : Int) then (spec_l19Gap.l1 k3 l0 l1 t151 t154 (mx (mx x7_3 (wrap64 ((wrap64 (t158 * (rd t162 (rd t151 x8_2)))) - (wrap64 (t168 * (rd t172 (rd t154 x9_3))))))) (wrap64 (-(wrap64 ((wrap64 (t158 * (rd t162 (rd t151 x8_2)))) - (wrap64 (t168 * (rd t172 (rd t154 x9_3))))))))) x8_2 (wrap64 (x9_3 + 1))) else (none)) else (none)) else (none))) = some r := H
                                have A25 := Aside0.mk A250
                                clear A250
                                replace H := Option.bind_eq_some_iff.mp H
                                obtain ⟨t172, A260, H⟩ := H
                                replace H : (if 0 ≤ x9_3 then (if 0 ≤ (rd t154 x9_3) then (if (rd t154 x9_3) < (t172.length : Int) then (spec_l19Gap.l1 k3 l0 l1 t151 t154 (mx (mx x7_3 (wrap64 ((wrap64 (t158 * (rd t162 (rd t151 x8_2)))) - (wrap64 (t168 * (rd t172 (rd t154 x9_3))))))) (wrap64 (-(wrap64 ((wrap64 (t158 * (rd t162 (rd t151 x8_2)))) - (wrap64 (t168 * (rd t172 (rd t154 x9_3))))))))) x8_2 (wrap64 (x9_3 + 1))) else (none)) else (none)) else (none)) = some r := H
                                have A26 := Aside0.mk A260
                                clear A260
                                by_cases c27 : 0 ≤ x9_3
                                · rw [if_pos c27] at H
                                  have c27b0 : decide (0 ≤ x9_3) = true := decide_eq_true c27
                                  clear c27
                                  by_cases c28 : 0 ≤ (rd t154 x9_3)
                                  · rw [if_pos c28] at H
                                    have c28b0 : decide (0 ≤ (rd t154 x9_3)) = true := decide_eq_true c28
                                    clear c28
                                    by_cases c29 : (rd t154 x9_3) < (t172.length : Int)
                                    · rw [if_pos c29] at H
                                      have c29b0 : decide ((rd t154 x9_3) < (t172.length : Int)) = true := decide_eq_true c29
                                      clear c29
                                      obtain ⟨ji30, hji30⟩ : ∃ j_ : Int, (mx x7_3 (wrap64 ((wrap64 (t158 * (rd t162 (rd t151 x8_2)))) - (wrap64 (t168 * (rd t172 (rd t154 x9_3))))))) = j_ := ⟨_, rfl⟩
                                      replace H : (spec_l19Gap.l1 k3 l0 l1 t151 t154 (mx (ji30) (wrap64 (-(wrap64 ((wrap64 (t158 * (rd t162 (rd t151 x8_2)))) - (wrap64 (t168 * (rd t172 (rd t154 x9_3))))))))) x8_2 (wrap64 (x9_3 + 1))) = some r := by first | (rw [hji30] at H; exact H) | (simp only [hji30] at H ⊢; exact H)
                                      (try rw [hji30] at A16)
                                      (try rw [hji30] at A17)
                                      (try rw [hji30] at A18)
                                      (try rw [hji30] at A24)
                                      (try rw [hji30] at A25)
                                      (try rw [hji30] at A26)
                                      have hji30_ : (if x7_3 < (wrap64 ((wrap64 (t158 * (rd t162 (rd t151 x8_2)))) - (wrap64 (t168 * (rd t172 (rd t154 x9_3)))))) then (wrap64 ((wrap64 (t158 * (rd t162 (rd t151 x8_2)))) - (wrap64 (t168 * (rd t172 (rd t154 x9_3)))))) else x7_3) = ji30 := hji30
                                      obtain ⟨ji31, hji31⟩ : ∃ j_ : Int, (mx (ji30) (wrap64 (-(wrap64 ((wrap64 (t158 * (rd t162 (rd t151 x8_2)))) - (wrap64 (t168 * (rd t172 (rd t154 x9_3))))))))) = j_ := ⟨_, rfl⟩
                                      replace H : (spec_l19Gap.l1 k3 l0 l1 t151 t154 ji31 x8_2 (wrap64 (x9_3 + 1))) = some r := by first | (rw [hji31] at H; exact H) | (simp only [hji31] at H ⊢; exact H)
                                      (try rw [hji31] at A16)
                                      (try rw [hji31] at A17)
                                      (try rw [hji31] at A18)
                                      (try rw [hji31] at A24)
                                      (try rw [hji31] at A25)
                                      (try rw [hji31] at A26)
                                      have hji31_ : (if (ji30) < (wrap64 (-(wrap64 ((wrap64 (t158 * (rd t162 (rd t151 x8_2)))) - (wrap64 (t168 * (rd t172 (rd t154 x9_3)))))))) then (wrap64 (-(wrap64 ((wrap64 (t158 * (rd t162 (rd t151 x8_2)))) - (wrap64 (t168 * (rd t172 (rd t154 x9_3)))))))) else (ji30)) = ji31 := hji31
                                      have H' := Aside0.mk H
                                      clear H
                                      obtain ⟨Ao32, co32, eo32⟩ := Kd.R_slice HO_6.out
                                      subst eo32
                                      try go_wp2
                                      have n0_ := Aside0.mk (Kd.R_drew HO_5.out)
                                      have n1_ := Aside0.mk (Kd.R_drew HO_6.out)
                                      have n2_ := Aside0.mk (below_drew1 HB.out)
                                      clear HO_5
                                      clear HO_6
                                      clear HB
                                      have HO_5 := n0_
                                      have HO_6 := n1_
                                      have HB := n2_
                                      clear n0_ n1_ n2_
                                      have p157 : 0 ≤ (0 : Int) := (by omega)
                                      have q157 : 0 < (l0.length : Int) := of_decide_eq_true (by first | (with_reducible assumption) | assumption)
                                      obtain ⟨ad157, A157_5, c157_5, e157, hx157_0, hx157_1, hx157_2, hx157_3, hx157_4, hx157_5, hl157_5, hi157_5⟩ := at_T177 HR0.out 0 p157 q157
                                      have hw157_5 := hx157_5
                                      (try rw [show ((0 : Int)).toNat = 0 from rfl] at hw157_5)
                                      (try rw [show 0 * 6 = 0 from rfl] at hw157_5)
                                      (try rw [Addr.add_zero'] at hw157_5)
                                      have hw157_4 := hx157_4
                                      (try rw [show ((0 : Int)).toNat = 0 from rfl] at hw157_4)
                                      (try rw [show 0 * 6 = 0 from rfl] at hw157_4)
                                      (try rw [Addr.add_zero'] at hw157_4)
                                      have hw157_3 := hx157_3
                                      (try rw [show ((0 : Int)).toNat = 0 from rfl] at hw157_3)
                                      (try rw [show 0 * 6 = 0 from rfl] at hw157_3)
                                      (try rw [Addr.add_zero'] at hw157_3)
                                      have hw157_2 := hx157_2
                                      (try rw [show ((0 : Int)).toNat = 0 from rfl] at hw157_2)
                                      (try rw [show 0 * 6 = 0 from rfl] at hw157_2)
                                      (try rw [Addr.add_zero'] at hw157_2)
                                      have hw157_1 := hx157_1
                                      (try rw [show ((0 : Int)).toNat = 0 from rfl] at hw157_1)
                                      (try rw [show 0 * 6 = 0 from rfl] at hw157_1)
                                      (try rw [Addr.add_zero'] at hw157_1)
                                      have hw157_0 := hx157_0
                                      (try rw [show ((0 : Int)).toNat = 0 from rfl] at hw157_0)
                                      (try rw [show 0 * 6 = 0 from rfl] at hw157_0)
                                      (try rw [Addr.add_zero'] at hw157_0)
                                      cases e157
                                      have qi157 : (0 < l0.length) = True := eq_true (by omega)
                                      (try rw [show ((0 : Int)).toNat = 0 from rfl] at hx157_0)
                                      (try rw [show 0 * 6 = 0 from rfl] at hx157_0)
                                      (try rw [Addr.add_zero'] at hx157_0)
                                      (try rw [show ((0 : Int)).toNat = 0 from rfl] at hx157_1)
                                      (try rw [show 0 * 6 = 0 from rfl] at hx157_1)
                                      (try rw [Addr.add_zero'] at hx157_1)
                                      (try rw [show ((0 : Int)).toNat = 0 from rfl] at hx157_2)
                                      (try rw [show 0 * 6 = 0 from rfl] at hx157_2)
                                      (try rw [Addr.add_zero'] at hx157_2)
                                      (try rw [show ((0 : Int)).toNat = 0 from rfl] at hx157_3)
                                      (try rw [show 0 * 6 = 0 from rfl] at hx157_3)
                                      (try rw [Addr.add_zero'] at hx157_3)
                                      (try rw [show ((0 : Int)).toNat = 0 from rfl] at hx157_4)
                                      (try rw [show 0 * 6 = 0 from rfl] at hx157_4)
                                      (try rw [Addr.add_zero'] at hx157_4)
                                      (try rw [show ((0 : Int)).toNat = 0 from rfl] at hx157_5)
                                      (try rw [show 0 * 6 = 0 from rfl] at hx157_5)
                                      (try rw [Addr.add_zero'] at hx157_5)
                                      replace hx157_0 := (HB.out.cell (World.block_lt_of_cell? w _ hx157_0)).trans hx157_0
                                      replace hx157_1 := (HB.out.cell (World.block_lt_of_cell? w _ hx157_1)).trans hx157_1
                                      replace hx157_2 := (HB.out.cell (World.block_lt_of_cell? w _ hx157_2)).trans hx157_2
                                      replace hx157_3 := (HB.out.cell (World.block_lt_of_cell? w _ hx157_3)).trans hx157_3
                                      replace hx157_4 := (HB.out.cell (World.block_lt_of_cell? w _ hx157_4)).trans hx157_4
                                      replace hx157_5 := (HB.out.cell (World.block_lt_of_cell? w _ hx157_5)).trans hx157_5
                                      have HR157_5 := Aside0.mk hi157_5
                                      have HC157_5 := Aside0.mk hl157_5
                                      clear hi157_5 hl157_5
                                      replace p157 := eq_true p157
                                      replace q157 := eq_true q157
                                      have p165 : 0 ≤ (x8_2 : Int) := of_decide_eq_true (by first | (with_reducible assumption) | assumption)
                                      have q165 : x8_2 < (t151.length : Int) := of_decide_eq_true (by first | (with_reducible assumption) | assumption)
                                      obtain ⟨ad165, e165, hx165_0⟩ := Kd.at_int (Kd.R_reads' HO_5.out).2.2 x8_2 p165 q165
                                      cases e165
                                      replace p165 := eq_true p165
                                      replace q165 := eq_true q165
                                      have p167 : 0 ≤ (0 : Int) := (by omega)
                                      have q167 : 0 < (l1.length : Int) := of_decide_eq_true (by first | (with_reducible assumption) | assumption)
                                      obtain ⟨ad167, A167_5, c167_5, e167, hx167_0, hx167_1, hx167_2, hx167_3, hx167_4, hx167_5, hl167_5, hi167_5⟩ := at_T177 HR1.out 0 p167 q167
                                      have hw167_5 := hx167_5
                                      (try rw [show ((0 : Int)).toNat = 0 from rfl] at hw167_5)
                                      (try rw [show 0 * 6 = 0 from rfl] at hw167_5)
                                      (try rw [Addr.add_zero'] at hw167_5)
                                      have hw167_4 := hx167_4
                                      (try rw [show ((0 : Int)).toNat = 0 from rfl] at hw167_4)
                                      (try rw [show 0 * 6 = 0 from rfl] at hw167_4)
                                      (try rw [Addr.add_zero'] at hw167_4)
                                      have hw167_3 := hx167_3
                                      (try rw [show ((0 : Int)).toNat = 0 from rfl] at hw167_3)
                                      (try rw [show 0 * 6 = 0 from rfl] at hw167_3)
                                      (try rw [Addr.add_zero'] at hw167_3)
                                      have hw167_2 := hx167_2
                                      (try rw [show ((0 : Int)).toNat = 0 from rfl] at hw167_2)
                                      (try rw [show 0 * 6 = 0 from rfl] at hw167_2)
                                      (try rw [Addr.add_zero'] at hw167_2)
                                      have hw167_1 := hx167_1
                                      (try rw [show ((0 : Int)).toNat = 0 from rfl] at hw167_1)
                                      (try rw [show 0 * 6 = 0 from rfl] at hw167_1)
                                      (try rw [Addr.add_zero'] at hw167_1)
                                      have hw167_0 := hx167_0
                                      (try rw [show ((0 : Int)).toNat = 0 from rfl] at hw167_0)
                                      (try rw [show 0 * 6 = 0 from rfl] at hw167_0)
                                      (try rw [Addr.add_zero'] at hw167_0)
                                      cases e167
                                      have qi167 : (0 < l1.length) = True := eq_true (by omega)
                                      (try rw [show ((0 : Int)).toNat = 0 from rfl] at hx167_0)
                                      (try rw [show 0 * 6 = 0 from rfl] at hx167_0)
                                      (try rw [Addr.add_zero'] at hx167_0)
                                      (try rw [show ((0 : Int)).toNat = 0 from rfl] at hx167_1)
                                      (try rw [show 0 * 6 = 0 from rfl] at hx167_1)
                                      (try rw [Addr.add_zero'] at hx167_1)
                                      (try rw [show ((0 : Int)).toNat = 0 from rfl] at hx167_2)
                                      (try rw [show 0 * 6 = 0 from rfl] at hx167_2)
                                      (try rw [Addr.add_zero'] at hx167_2)
                                      (try rw [show ((0 : Int)).toNat = 0 from rfl] at hx167_3)
                                      (try rw [show 0 * 6 = 0 from rfl] at hx167_3)
                                      (try rw [Addr.add_zero'] at hx167_3)
                                      (try rw [show ((0 : Int)).toNat = 0 from rfl] at hx167_4)
                                      (try rw [show 0 * 6 = 0 from rfl] at hx167_4)
                                      (try rw [Addr.add_zero'] at hx167_4)
                                      (try rw [show ((0 : Int)).toNat = 0 from rfl] at hx167_5)
                                      (try rw [show 0 * 6 = 0 from rfl] at hx167_5)
                                      (try rw [Addr.add_zero'] at hx167_5)
                                      replace hx167_0 := (HB.out.cell (World.block_lt_of_cell? w _ hx167_0)).trans hx167_0
                                      replace hx167_1 := (HB.out.cell (World.block_lt_of_cell? w _ hx167_1)).trans hx167_1
                                      replace hx167_2 := (HB.out.cell (World.block_lt_of_cell? w _ hx167_2)).trans hx167_2
                                      replace hx167_3 := (HB.out.cell (World.block_lt_of_cell? w _ hx167_3)).trans hx167_3
                                      replace hx167_4 := (HB.out.cell (World.block_lt_of_cell? w _ hx167_4)).trans hx167_4
                                      replace hx167_5 := (HB.out.cell (World.block_lt_of_cell? w _ hx167_5)).trans hx167_5
                                      have HR167_5 := Aside0.mk hi167_5
                                      have HC167_5 := Aside0.mk hl167_5
                                      clear hi167_5 hl167_5
                                      replace p167 := eq_true p167
                                      replace q167 := eq_true q167
                                      have p175 : 0 ≤ (x9_3 : Int) := of_decide_eq_true (by first | (with_reducible assumption) | assumption)
                                      have q175 : x9_3 < (t154.length : Int) := of_decide_eq_true (by first | (with_reducible assumption) | assumption)
                                      obtain ⟨ad175, e175, hx175_0⟩ := Kd.at_int (Kd.R_reads' HO_6.out).2.2 x9_3 p175 q175
                                      cases e175
                                      replace p175 := eq_true p175
                                      replace q175 := eq_true q175
                                      refine start_ (n := 32) (S := fun w' => w'.cell? ad157 = some (.int .i64 ((rd_T177 l0 0).f0)) ∧ w'.cell? ⟨ad157.block, ad157.off + 1, none⟩ = some (.int .i64 ((rd_T177 l0 0).f1)) ∧ w'.cell? ⟨ad157.block, ad157.off + 2, none⟩ = some (.int .i64 ((rd_T177 l0 0).f2.f0)) ∧ w'.cell? ⟨ad157.block, ad157.off + 3, none⟩ = some (.int .i64 ((rd_T177 l0 0).f2.f1)) ∧ w'.cell? ⟨ad157.block, ad157.off + 4, none⟩ = some (.int .i64 ((rd_T177 l0 0).f2.f2)) ∧ w'.cell? ⟨ad157.block, ad157.off + 5, none⟩ = some (.slice A157_5 ((rd_T177 l0 0).f3).length c157_5) ∧ w'.cell? (ad165.add (x8_2).toNat) = some (.int .i64 (rd t151 x8_2)) ∧ w'.cell? ad167 = some (.int .i64 ((rd_T177 l1 0).f0)) ∧ w'.cell? ⟨ad167.block, ad167.off + 1, none⟩ = some (.int .i64 ((rd_T177 l1 0).f1)) ∧ w'.cell? ⟨ad167.block, ad167.off + 2, none⟩ = some (.int .i64 ((rd_T177 l1 0).f2.f0)) ∧ w'.cell? ⟨ad167.block, ad167.off + 3, none⟩ = some (.int .i64 ((rd_T177 l1 0).f2.f1)) ∧ w'.cell? ⟨ad167.block, ad167.off + 4, none⟩ = some (.int .i64 ((rd_T177 l1 0).f2.f2)) ∧ w'.cell? ⟨ad167.block, ad167.off + 5, none⟩ = some (.slice A167_5 ((rd_T177 l1 0).f3).length c167_5) ∧ w'.cell? (ad175.add (x9_3).toNat) = some (.int .i64 (rd t154 x9_3)) ∧ True ∧ True) (ds := []) (bz 32 0) (by kernel_rfl) rfl (by kernel_rfl) ⟨((HB.out.cell (World.block_lt_of_cell? w _ hw157_0)).trans hw157_0), ((HB.out.cell (World.block_lt_of_cell? w _ hw157_1)).trans hw157_1), ((HB.out.cell (World.block_lt_of_cell? w _ hw157_2)).trans hw157_2), ((HB.out.cell (World.block_lt_of_cell? w _ hw157_3)).trans hw157_3), ((HB.out.cell (World.block_lt_of_cell? w _ hw157_4)).trans hw157_4), ((HB.out.cell (World.block_lt_of_cell? w _ hw157_5)).trans hw157_5), hx165_0, ((HB.out.cell (World.block_lt_of_cell? w _ hw167_0)).trans hw167_0), ((HB.out.cell (World.block_lt_of_cell? w _ hw167_1)).trans hw167_1), ((HB.out.cell (World.block_lt_of_cell? w _ hw167_2)).trans hw167_2), ((HB.out.cell (World.block_lt_of_cell? w _ hw167_3)).trans hw167_3), ((HB.out.cell (World.block_lt_of_cell? w _ hw167_4)).trans hw167_4), ((HB.out.cell (World.block_lt_of_cell? w _ hw167_5)).trans hw167_5), hx175_0, trivial, trivial⟩ (fun hHeld => ?_); refine with_tabW spec_l19Gap.tab12 spec_l19Gap.bits12 (fun HT_ HW_ => ?_)
                                      generalize wr.drew = w33 at HO_5 HO_6 HB HR157_5 HR167_5 hx157_0 hx157_1 hx157_2 hx157_3 hx157_4 hx157_5 hx165_0 hx167_0 hx167_1 hx167_2 hx167_3 hx167_4 hx167_5 hx175_0 hHeld ⊢
                                      refine px_ (i := 0) (N := some 35) (bz 32 1) (any_of HT_.out (by kernel_rfl)) ?_
                                      refine px_ (i := 1) (N := some 36) (bz 32 3) (any_of HT_.out (by kernel_rfl)) ?_
                                      refine px_ (i := 2) (N := some 37) (bz 32 7) (any_of HT_.out (by kernel_rfl)) ?_
                                      refine px_ (i := 5) (N := some 40) (bz 32 39) (any_of HT_.out (by kernel_rfl)) ?_
                                      refine px_ (i := 8) (N := some 43) (bz 32 295) (any_of HT_.out (by kernel_rfl)) ?_
                                      refine px_ (i := 9) (N := some 44) (bz 32 807) (any_of HT_.out (by kernel_rfl)) ?_
                                      refine px_ (i := 10) (N := some 45) (bz 32 1831) (any_of HT_.out (by kernel_rfl)) ?_
                                      refine px_ (i := 15) (N := some 50) (bz 32 34599) (any_of HT_.out (by kernel_rfl)) ?_
                                      refine px_ (i := 16) (N := some 51) (bz 32 100135) (any_of HT_.out (by kernel_rfl)) ?_
                                      refine px_ (i := 17) (N := some 52) (bz 32 231207) (any_of HT_.out (by kernel_rfl)) ?_
                                      refine px_ (i := 20) (N := some 55) (bz 32 1279783) (any_of HT_.out (by kernel_rfl)) ?_
                                      refine px_ (i := 23) (N := some 58) (bz 32 9668391) (any_of HT_.out (by kernel_rfl)) ?_
                                      refine px_ (i := 24) (N := some 59) (bz 32 26445607) (any_of HT_.out (by kernel_rfl)) ?_
                                      refine px_ (i := 25) (N := some 60) (bz 32 60000039) (any_of HT_.out (by kernel_rfl)) ?_
                                      refine tx_ (i := 3) (N := some 38) (bz 32 60000047) rfl rfl (take_ofW HT_.out HW_.out (by kernel_rfl)) hHeld (by rintro w' ⟨s0, s1, s2, s3, s4, s5, s6, s7, s8, s9, s10, s11, s12, s13, s14, s15⟩; go_simp; with_reducible rfl) ?_
                                      refine tx_ (i := 11) (N := some 46) (bz 32 60002095) rfl rfl (take_ofW HT_.out HW_.out (by kernel_rfl)) hHeld (by rintro w' ⟨s0, s1, s2, s3, s4, s5, s6, s7, s8, s9, s10, s11, s12, s13, s14, s15⟩; go_simp; with_reducible rfl) ?_
                                      refine tx_ (i := 18) (N := some 53) (bz 32 60264239) rfl rfl (take_ofW HT_.out HW_.out (by kernel_rfl)) hHeld (by rintro w' ⟨s0, s1, s2, s3, s4, s5, s6, s7, s8, s9, s10, s11, s12, s13, s14, s15⟩; go_simp; with_reducible rfl) ?_
                                      refine tx_ (i := 26) (N := some 61) (bz 32 127373103) rfl rfl (take_ofW HT_.out HW_.out (by kernel_rfl)) hHeld (by rintro w' ⟨s0, s1, s2, s3, s4, s5, s6, s7, s8, s9, s10, s11, s12, s13, s14, s15⟩; go_simp; with_reducible rfl) ?_
                                      refine one_ (i := 4) (N := some 39) (bz 32 127373119) rfl rfl (one_of HT_.out (by kernel_rfl)) (by decide) (fun K hK => ?_)
                                      refine goes_ Try.func233 (by kernel_rfl) rfl #[.int .i64 ((rd_T177 l0 0).f1)] (by rfl) rfl rfl (by (try simp only [List.map_toArray, List.map_cons, List.map_nil]); first | done | rfl | (simp only [List.length_drop, List.length_take]; rfl)) ?_
                                      with_reducible refine (spec_Stride.calls ((rd_T177 l0 0).f1) t158 _ A16.out).mono ?_
                                      rintro e w' ⟨rfl, ⟨nd, rfl⟩⟩
                                      refine ⟨_, rfl, ?_⟩
                                      refine hK.out _ _ ⟨((HB.out.cell (World.block_lt_of_cell? w _ hw157_0)).trans hw157_0), ((HB.out.cell (World.block_lt_of_cell? w _ hw157_1)).trans hw157_1), ((HB.out.cell (World.block_lt_of_cell? w _ hw157_2)).trans hw157_2), ((HB.out.cell (World.block_lt_of_cell? w _ hw157_3)).trans hw157_3), ((HB.out.cell (World.block_lt_of_cell? w _ hw157_4)).trans hw157_4), ((HB.out.cell (World.block_lt_of_cell? w _ hw157_5)).trans hw157_5), hHeld.2.2.2.2.2.2.1, ((HB.out.cell (World.block_lt_of_cell? w _ hw167_0)).trans hw167_0), ((HB.out.cell (World.block_lt_of_cell? w _ hw167_1)).trans hw167_1), ((HB.out.cell (World.block_lt_of_cell? w _ hw167_2)).trans hw167_2), ((HB.out.cell (World.block_lt_of_cell? w _ hw167_3)).trans hw167_3), ((HB.out.cell (World.block_lt_of_cell? w _ hw167_4)).trans hw167_4), ((HB.out.cell (World.block_lt_of_cell? w _ hw167_5)).trans hw167_5), hHeld.2.2.2.2.2.2.2.2.2.2.2.2.2.1, hHeld.2.2.2.2.2.2.2.2.2.2.2.2.2.2.1, hHeld.2.2.2.2.2.2.2.2.2.2.2.2.2.2.2⟩ (fun hHeld => ?_)
                                      clear hK K
                                      refine nx_ (N := some 39) ?_
                                      refine one_ (i := 6) (N := some 41) (bz 32 127373183) rfl rfl (one_of HT_.out (by kernel_rfl)) (by decide) (fun K hK => ?_)
                                      refine goes_ Try.func235 (by kernel_rfl) rfl #[.slice (some ad157) l0.length c0] (by rfl) rfl rfl (by (try simp only [List.map_toArray, List.map_cons, List.map_nil]); first | done | rfl | (simp only [List.length_drop, List.length_take]; rfl)) ?_
                                      with_reducible refine (spec_l19Sum.calls k3 _ _ l0 t159 t160 t161 _ ?side1 ?side2 A17.out).mono ?_
                                      (case side1 => repeat (first | exact (Kd.C_below HR0.out (by repeat (first | (with_reducible first | exact HB.out | apply below_alloc | apply pw_below_drewN | apply below_drew1) | exact HB.out))) | (with_reducible refine Kd.C_alloc ?_ _) | (with_reducible refine Kd.C_drewN ?_ _) | (with_reducible refine Kd.C_drew ?_)))
                                      (case side2 => exact HC0.out)
                                      rintro e w34 ⟨rfl, hb⟩
                                      have HS6_ := (hb.cell (World.block_lt_of_cell? _ _ (hHeld.2.2.2.2.2.2.1))).trans (hHeld.2.2.2.2.2.2.1)
                                      have HS13_ := (hb.cell (World.block_lt_of_cell? _ _ (hHeld.2.2.2.2.2.2.2.2.2.2.2.2.2.1))).trans (hHeld.2.2.2.2.2.2.2.2.2.2.2.2.2.1)
                                      refine ⟨_, rfl, ?_⟩
                                      have n0_ := Aside0.mk (Kd.R_below (by (with_reducible repeat (first | apply Kd.R_alloc | apply Kd.R_drewN | apply Kd.R_drew)); exact HO_5.out) hb)
                                      have n1_ := Aside0.mk (Kd.R_below (by (with_reducible repeat (first | apply Kd.R_alloc | apply Kd.R_drewN | apply Kd.R_drew)); exact HO_6.out) hb)
                                      have n2_ := Aside0.mk (below_step (by repeat (first | (with_reducible first | exact HB.out | apply below_alloc | apply pw_below_drewN | apply below_drew1) | exact HB.out)) hb)
                                      clear HO_5
                                      clear HO_6
                                      clear HB
                                      have HO_5 := n0_
                                      have HO_6 := n1_
                                      have HB := n2_
                                      clear n0_ n1_ n2_
                                      (try clear hb)
                                      (try clear hb2)
                                      (try clear hk)
                                      (try clear hi)
                                      refine hK.out _ _ ⟨((HB.out.cell (World.block_lt_of_cell? w _ hw157_0)).trans hw157_0), ((HB.out.cell (World.block_lt_of_cell? w _ hw157_1)).trans hw157_1), ((HB.out.cell (World.block_lt_of_cell? w _ hw157_2)).trans hw157_2), ((HB.out.cell (World.block_lt_of_cell? w _ hw157_3)).trans hw157_3), ((HB.out.cell (World.block_lt_of_cell? w _ hw157_4)).trans hw157_4), ((HB.out.cell (World.block_lt_of_cell? w _ hw157_5)).trans hw157_5), HS6_, ((HB.out.cell (World.block_lt_of_cell? w _ hw167_0)).trans hw167_0), ((HB.out.cell (World.block_lt_of_cell? w _ hw167_1)).trans hw167_1), ((HB.out.cell (World.block_lt_of_cell? w _ hw167_2)).trans hw167_2), ((HB.out.cell (World.block_lt_of_cell? w _ hw167_3)).trans hw167_3), ((HB.out.cell (World.block_lt_of_cell? w _ hw167_4)).trans hw167_4), ((HB.out.cell (World.block_lt_of_cell? w _ hw167_5)).trans hw167_5), HS13_, trivial, trivial⟩ (fun hHeld => ?_)
                                      clear hK K
                                      refine nx_ (N := some 41) ?_
                                      refine one_ (i := 7) (N := some 42) (bz 32 127373311) rfl rfl (one_of HT_.out (by kernel_rfl)) (by decide) (fun K hK => ?_)
                                      refine goes_ Try.func234 (by kernel_rfl) rfl #[.agg #[.int .i64 t159, .int .i64 t160, .int .i64 t161]] (by rfl) rfl rfl (by (try simp only [List.map_toArray, List.map_cons, List.map_nil]); first | done | rfl | (simp only [List.length_drop, List.length_take]; rfl)) ?_
                                      with_reducible refine (spec_l13List.calls t159 t160 t161 t162 _ A18.out).mono ?_
                                      rintro e w35 ⟨v163, rfl, ho0, hb⟩
                                      have HS6_ := (hb.cell (World.block_lt_of_cell? _ _ (hHeld.2.2.2.2.2.2.1))).trans (hHeld.2.2.2.2.2.2.1)
                                      have HS13_ := (hb.cell (World.block_lt_of_cell? _ _ (hHeld.2.2.2.2.2.2.2.2.2.2.2.2.2.1))).trans (hHeld.2.2.2.2.2.2.2.2.2.2.2.2.2.1)
                                      refine ⟨_, rfl, ?_⟩
                                      have n0_ := Aside0.mk (Kd.R_elder' (by (with_reducible repeat (first | apply Kd.R_alloc | apply Kd.R_drewN | apply Kd.R_drew)); exact HO_5.out) (Kd.R_base ho0) hb)
                                      have n1_ := Aside0.mk (Kd.R_elder' (by (with_reducible repeat (first | apply Kd.R_alloc | apply Kd.R_drewN | apply Kd.R_drew)); exact HO_6.out) (Kd.R_base ho0) hb)
                                      have n2_ := Aside0.mk (Kd.R_lower (Kd.R_new' (Kd.R_new' ho0 (Kd.R_lt (by (with_reducible repeat (first | apply Kd.R_alloc | apply Kd.R_drewN | apply Kd.R_drew)); exact HO_5.out))) (Kd.R_lt (by (with_reducible repeat (first | apply Kd.R_alloc | apply Kd.R_drewN | apply Kd.R_drew)); exact HO_6.out))) (below_size (by repeat (first | (with_reducible first | exact HB.out | apply below_alloc | apply pw_below_drewN | apply below_drew1) | exact HB.out))))
                                      have n3_ := Aside0.mk (below_step (by repeat (first | (with_reducible first | exact HB.out | apply below_alloc | apply pw_below_drewN | apply below_drew1) | exact HB.out)) hb)
                                      clear HO_5
                                      clear HO_6
                                      clear HB
                                      have HO_5 := n0_
                                      have HO_6 := n1_
                                      have HO164 := n2_
                                      have HB := n3_
                                      clear n0_ n1_ n2_ n3_
                                      (try clear hb)
                                      (try clear hb2)
                                      (try clear hk)
                                      (try clear hi)
                                      (try clear ho0)
                                      obtain ⟨Ao36, co36, eo36⟩ := Kd.R_slice HO164.out
                                      (first | subst eo36 | (injection eo36 with f1_ f2_ f3_; have f4_ := f1_.symm; have f5_ := f3_.symm; clear f1_ f2_ f3_; subst f4_; subst f5_))
                                      have p166 : 0 ≤ ((rd t151 x8_2) : Int) := of_decide_eq_true (by first | (with_reducible assumption) | assumption)
                                      have q166 : (rd t151 x8_2) < (t162.length : Int) := of_decide_eq_true (by first | (with_reducible assumption) | assumption)
                                      obtain ⟨ad166, e166, hx166_0⟩ := Kd.at_int (Kd.R_reads' HO164.out).2.2 (rd t151 x8_2) p166 q166
                                      cases e166
                                      replace p166 := eq_true p166
                                      replace q166 := eq_true q166
                                      refine hK.out _ _ ⟨((HB.out.cell (World.block_lt_of_cell? w _ hw157_0)).trans hw157_0), ((HB.out.cell (World.block_lt_of_cell? w _ hw157_1)).trans hw157_1), ((HB.out.cell (World.block_lt_of_cell? w _ hw157_2)).trans hw157_2), ((HB.out.cell (World.block_lt_of_cell? w _ hw157_3)).trans hw157_3), ((HB.out.cell (World.block_lt_of_cell? w _ hw157_4)).trans hw157_4), ((HB.out.cell (World.block_lt_of_cell? w _ hw157_5)).trans hw157_5), HS6_, ((HB.out.cell (World.block_lt_of_cell? w _ hw167_0)).trans hw167_0), ((HB.out.cell (World.block_lt_of_cell? w _ hw167_1)).trans hw167_1), ((HB.out.cell (World.block_lt_of_cell? w _ hw167_2)).trans hw167_2), ((HB.out.cell (World.block_lt_of_cell? w _ hw167_3)).trans hw167_3), ((HB.out.cell (World.block_lt_of_cell? w _ hw167_4)).trans hw167_4), ((HB.out.cell (World.block_lt_of_cell? w _ hw167_5)).trans hw167_5), HS13_, trivial, trivial⟩ (fun hHeld => ?_)
                                      refine more_ (S2 := fun w' => w'.cell? ad157 = some (.int .i64 ((rd_T177 l0 0).f0)) ∧ w'.cell? ⟨ad157.block, ad157.off + 1, none⟩ = some (.int .i64 ((rd_T177 l0 0).f1)) ∧ w'.cell? ⟨ad157.block, ad157.off + 2, none⟩ = some (.int .i64 ((rd_T177 l0 0).f2.f0)) ∧ w'.cell? ⟨ad157.block, ad157.off + 3, none⟩ = some (.int .i64 ((rd_T177 l0 0).f2.f1)) ∧ w'.cell? ⟨ad157.block, ad157.off + 4, none⟩ = some (.int .i64 ((rd_T177 l0 0).f2.f2)) ∧ w'.cell? ⟨ad157.block, ad157.off + 5, none⟩ = some (.slice A157_5 ((rd_T177 l0 0).f3).length c157_5) ∧ w'.cell? (ad165.add (x8_2).toNat) = some (.int .i64 (rd t151 x8_2)) ∧ w'.cell? ad167 = some (.int .i64 ((rd_T177 l1 0).f0)) ∧ w'.cell? ⟨ad167.block, ad167.off + 1, none⟩ = some (.int .i64 ((rd_T177 l1 0).f1)) ∧ w'.cell? ⟨ad167.block, ad167.off + 2, none⟩ = some (.int .i64 ((rd_T177 l1 0).f2.f0)) ∧ w'.cell? ⟨ad167.block, ad167.off + 3, none⟩ = some (.int .i64 ((rd_T177 l1 0).f2.f1)) ∧ w'.cell? ⟨ad167.block, ad167.off + 4, none⟩ = some (.int .i64 ((rd_T177 l1 0).f2.f2)) ∧ w'.cell? ⟨ad167.block, ad167.off + 5, none⟩ = some (.slice A167_5 ((rd_T177 l1 0).f3).length c167_5) ∧ w'.cell? (ad175.add (x9_3).toNat) = some (.int .i64 (rd t154 x9_3)) ∧ w'.cell? (ad166.add ((rd t151 x8_2)).toNat) = some (.int .i64 (rd t162 (rd t151 x8_2))) ∧ True) (fun w' h => ⟨h.1, h.2.1, h.2.2.1, h.2.2.2.1, h.2.2.2.2.1, h.2.2.2.2.2.1, h.2.2.2.2.2.2.1, h.2.2.2.2.2.2.2.1, h.2.2.2.2.2.2.2.2.1, h.2.2.2.2.2.2.2.2.2.1, h.2.2.2.2.2.2.2.2.2.2.1, h.2.2.2.2.2.2.2.2.2.2.2.1, h.2.2.2.2.2.2.2.2.2.2.2.2.1, h.2.2.2.2.2.2.2.2.2.2.2.2.2.1, trivial, h.2.2.2.2.2.2.2.2.2.2.2.2.2.2.2⟩) ⟨hHeld.1, hHeld.2.1, hHeld.2.2.1, hHeld.2.2.2.1, hHeld.2.2.2.2.1, hHeld.2.2.2.2.2.1, hHeld.2.2.2.2.2.2.1, hHeld.2.2.2.2.2.2.2.1, hHeld.2.2.2.2.2.2.2.2.1, hHeld.2.2.2.2.2.2.2.2.2.1, hHeld.2.2.2.2.2.2.2.2.2.2.1, hHeld.2.2.2.2.2.2.2.2.2.2.2.1, hHeld.2.2.2.2.2.2.2.2.2.2.2.2.1, hHeld.2.2.2.2.2.2.2.2.2.2.2.2.2.1, hx166_0, hHeld.2.2.2.2.2.2.2.2.2.2.2.2.2.2.2⟩ (fun hHeld => ?_)
                                      clear hK K
                                      refine nx_ (N := some 42) ?_
                                      refine px_ (i := 12) (N := some 47) (bz 32 127377407) (any_of HT_.out (by kernel_rfl)) ?_
                                      refine tx_ (i := 13) (N := some 48) (bz 32 127385599) rfl rfl (take_ofW HT_.out HW_.out (by kernel_rfl)) hHeld (by rintro w' ⟨s0, s1, s2, s3, s4, s5, s6, s7, s8, s9, s10, s11, s12, s13, s14, s15⟩; go_simp; with_reducible rfl) ?_
                                      refine px_ (i := 14) (N := some 49) (bz 32 127401983) (any_of HT_.out (by kernel_rfl)) ?_
                                      refine one_ (i := 19) (N := some 54) (bz 32 127926271) rfl rfl (one_of HT_.out (by kernel_rfl)) (by decide) (fun K hK => ?_)
                                      refine goes_ Try.func233 (by kernel_rfl) rfl #[.int .i64 ((rd_T177 l1 0).f1)] (by rfl) rfl rfl (by (try simp only [List.map_toArray, List.map_cons, List.map_nil]); first | done | rfl | (simp only [List.length_drop, List.length_take]; rfl)) ?_
                                      with_reducible refine (spec_Stride.calls ((rd_T177 l1 0).f1) t168 _ A24.out).mono ?_
                                      rintro e w' ⟨rfl, ⟨nd, rfl⟩⟩
                                      refine ⟨_, rfl, ?_⟩
                                      refine hK.out _ _ ⟨((HB.out.cell (World.block_lt_of_cell? w _ hw157_0)).trans hw157_0), ((HB.out.cell (World.block_lt_of_cell? w _ hw157_1)).trans hw157_1), ((HB.out.cell (World.block_lt_of_cell? w _ hw157_2)).trans hw157_2), ((HB.out.cell (World.block_lt_of_cell? w _ hw157_3)).trans hw157_3), ((HB.out.cell (World.block_lt_of_cell? w _ hw157_4)).trans hw157_4), ((HB.out.cell (World.block_lt_of_cell? w _ hw157_5)).trans hw157_5), hHeld.2.2.2.2.2.2.1, ((HB.out.cell (World.block_lt_of_cell? w _ hw167_0)).trans hw167_0), ((HB.out.cell (World.block_lt_of_cell? w _ hw167_1)).trans hw167_1), ((HB.out.cell (World.block_lt_of_cell? w _ hw167_2)).trans hw167_2), ((HB.out.cell (World.block_lt_of_cell? w _ hw167_3)).trans hw167_3), ((HB.out.cell (World.block_lt_of_cell? w _ hw167_4)).trans hw167_4), ((HB.out.cell (World.block_lt_of_cell? w _ hw167_5)).trans hw167_5), hHeld.2.2.2.2.2.2.2.2.2.2.2.2.2.1, hHeld.2.2.2.2.2.2.2.2.2.2.2.2.2.2.1, hHeld.2.2.2.2.2.2.2.2.2.2.2.2.2.2.2⟩ (fun hHeld => ?_)
                                      clear hK K
                                      refine nx_ (N := some 54) ?_
                                      refine one_ (i := 21) (N := some 56) (bz 32 130023423) rfl rfl (one_of HT_.out (by kernel_rfl)) (by decide) (fun K hK => ?_)
                                      refine goes_ Try.func235 (by kernel_rfl) rfl #[.slice (some ad167) l1.length c1] (by rfl) rfl rfl (by (try simp only [List.map_toArray, List.map_cons, List.map_nil]); first | done | rfl | (simp only [List.length_drop, List.length_take]; rfl)) ?_
                                      with_reducible refine (spec_l19Sum.calls k3 _ _ l1 t169 t170 t171 _ ?side1 ?side2 A25.out).mono ?_
                                      (case side1 => repeat (first | exact (Kd.C_below HR1.out (by repeat (first | (with_reducible first | exact HB.out | apply below_alloc | apply pw_below_drewN | apply below_drew1) | exact HB.out))) | (with_reducible refine Kd.C_alloc ?_ _) | (with_reducible refine Kd.C_drewN ?_ _) | (with_reducible refine Kd.C_drew ?_)))
                                      (case side2 => exact HC1.out)
                                      rintro e w37 ⟨rfl, hb⟩
                                      have HS6_ := (hb.cell (World.block_lt_of_cell? _ _ (hHeld.2.2.2.2.2.2.1))).trans (hHeld.2.2.2.2.2.2.1)
                                      have HS13_ := (hb.cell (World.block_lt_of_cell? _ _ (hHeld.2.2.2.2.2.2.2.2.2.2.2.2.2.1))).trans (hHeld.2.2.2.2.2.2.2.2.2.2.2.2.2.1)
                                      have HS14_ := (hb.cell (World.block_lt_of_cell? _ _ (hHeld.2.2.2.2.2.2.2.2.2.2.2.2.2.2.1))).trans (hHeld.2.2.2.2.2.2.2.2.2.2.2.2.2.2.1)
                                      refine ⟨_, rfl, ?_⟩
                                      have n0_ := Aside0.mk (Kd.R_below (by (with_reducible repeat (first | apply Kd.R_alloc | apply Kd.R_drewN | apply Kd.R_drew)); exact HO_5.out) hb)
                                      have n1_ := Aside0.mk (Kd.R_below (by (with_reducible repeat (first | apply Kd.R_alloc | apply Kd.R_drewN | apply Kd.R_drew)); exact HO_6.out) hb)
                                      have n2_ := Aside0.mk (Kd.R_below (by (with_reducible repeat (first | apply Kd.R_alloc | apply Kd.R_drewN | apply Kd.R_drew)); exact HO164.out) hb)
                                      have n3_ := Aside0.mk (below_step (by repeat (first | (with_reducible first | exact HB.out | apply below_alloc | apply pw_below_drewN | apply below_drew1) | exact HB.out)) hb)
                                      clear HO_5
                                      clear HO_6
                                      clear HO164
                                      clear HB
                                      have HO_5 := n0_
                                      have HO_6 := n1_
                                      have HO164 := n2_
                                      have HB := n3_
                                      clear n0_ n1_ n2_ n3_
                                      (try clear hb)
                                      (try clear hb2)
                                      (try clear hk)
                                      (try clear hi)
                                      refine hK.out _ _ ⟨((HB.out.cell (World.block_lt_of_cell? w _ hw157_0)).trans hw157_0), ((HB.out.cell (World.block_lt_of_cell? w _ hw157_1)).trans hw157_1), ((HB.out.cell (World.block_lt_of_cell? w _ hw157_2)).trans hw157_2), ((HB.out.cell (World.block_lt_of_cell? w _ hw157_3)).trans hw157_3), ((HB.out.cell (World.block_lt_of_cell? w _ hw157_4)).trans hw157_4), ((HB.out.cell (World.block_lt_of_cell? w _ hw157_5)).trans hw157_5), HS6_, ((HB.out.cell (World.block_lt_of_cell? w _ hw167_0)).trans hw167_0), ((HB.out.cell (World.block_lt_of_cell? w _ hw167_1)).trans hw167_1), ((HB.out.cell (World.block_lt_of_cell? w _ hw167_2)).trans hw167_2), ((HB.out.cell (World.block_lt_of_cell? w _ hw167_3)).trans hw167_3), ((HB.out.cell (World.block_lt_of_cell? w _ hw167_4)).trans hw167_4), ((HB.out.cell (World.block_lt_of_cell? w _ hw167_5)).trans hw167_5), HS13_, HS14_, trivial⟩ (fun hHeld => ?_)
                                      clear hK K
                                      refine nx_ (N := some 56) ?_
                                      refine one_ (i := 22) (N := some 57) (bz 32 134217727) rfl rfl (one_of HT_.out (by kernel_rfl)) (by decide) (fun K hK => ?_)
                                      refine goes_ Try.func234 (by kernel_rfl) rfl #[.agg #[.int .i64 t169, .int .i64 t170, .int .i64 t171]] (by rfl) rfl rfl (by (try simp only [List.map_toArray, List.map_cons, List.map_nil]); first | done | rfl | (simp only [List.length_drop, List.length_take]; rfl)) ?_
                                      with_reducible refine (spec_l13List.calls t169 t170 t171 t172 _ A26.out).mono ?_
                                      rintro e w38 ⟨v173, rfl, ho0, hb⟩
                                      have HS6_ := (hb.cell (World.block_lt_of_cell? _ _ (hHeld.2.2.2.2.2.2.1))).trans (hHeld.2.2.2.2.2.2.1)
                                      have HS13_ := (hb.cell (World.block_lt_of_cell? _ _ (hHeld.2.2.2.2.2.2.2.2.2.2.2.2.2.1))).trans (hHeld.2.2.2.2.2.2.2.2.2.2.2.2.2.1)
                                      have HS14_ := (hb.cell (World.block_lt_of_cell? _ _ (hHeld.2.2.2.2.2.2.2.2.2.2.2.2.2.2.1))).trans (hHeld.2.2.2.2.2.2.2.2.2.2.2.2.2.2.1)
                                      refine ⟨_, rfl, ?_⟩
                                      have n0_ := Aside0.mk (Kd.R_elder' (by (with_reducible repeat (first | apply Kd.R_alloc | apply Kd.R_drewN | apply Kd.R_drew)); exact HO_5.out) (Kd.R_base ho0) hb)
                                      have n1_ := Aside0.mk (Kd.R_elder' (by (with_reducible repeat (first | apply Kd.R_alloc | apply Kd.R_drewN | apply Kd.R_drew)); exact HO_6.out) (Kd.R_base ho0) hb)
                                      have n2_ := Aside0.mk (Kd.R_elder' (by (with_reducible repeat (first | apply Kd.R_alloc | apply Kd.R_drewN | apply Kd.R_drew)); exact HO164.out) (Kd.R_base ho0) hb)
                                      have n3_ := Aside0.mk (Kd.R_lower (Kd.R_new' (Kd.R_new' (Kd.R_new' ho0 (Kd.R_lt (by (with_reducible repeat (first | apply Kd.R_alloc | apply Kd.R_drewN | apply Kd.R_drew)); exact HO_5.out))) (Kd.R_lt (by (with_reducible repeat (first | apply Kd.R_alloc | apply Kd.R_drewN | apply Kd.R_drew)); exact HO_6.out))) (Kd.R_lt (by (with_reducible repeat (first | apply Kd.R_alloc | apply Kd.R_drewN | apply Kd.R_drew)); exact HO164.out))) (below_size (by repeat (first | (with_reducible first | exact HB.out | apply below_alloc | apply pw_below_drewN | apply below_drew1) | exact HB.out))))
                                      have n4_ := Aside0.mk (below_step (by repeat (first | (with_reducible first | exact HB.out | apply below_alloc | apply pw_below_drewN | apply below_drew1) | exact HB.out)) hb)
                                      clear HO_5
                                      clear HO_6
                                      clear HO164
                                      clear HB
                                      have HO_5 := n0_
                                      have HO_6 := n1_
                                      have HO164 := n2_
                                      have HO174 := n3_
                                      have HB := n4_
                                      clear n0_ n1_ n2_ n3_ n4_
                                      (try clear hb)
                                      (try clear hb2)
                                      (try clear hk)
                                      (try clear hi)
                                      (try clear ho0)
                                      obtain ⟨Ao39, co39, eo39⟩ := Kd.R_slice HO174.out
                                      (first | subst eo39 | (injection eo39 with f1_ f2_ f3_; have f4_ := f1_.symm; have f5_ := f3_.symm; clear f1_ f2_ f3_; subst f4_; subst f5_))
                                      have p176 : 0 ≤ ((rd t154 x9_3) : Int) := of_decide_eq_true (by first | (with_reducible assumption) | assumption)
                                      have q176 : (rd t154 x9_3) < (t172.length : Int) := of_decide_eq_true (by first | (with_reducible assumption) | assumption)
                                      obtain ⟨ad176, e176, hx176_0⟩ := Kd.at_int (Kd.R_reads' HO174.out).2.2 (rd t154 x9_3) p176 q176
                                      cases e176
                                      replace p176 := eq_true p176
                                      replace q176 := eq_true q176
                                      refine hK.out _ _ ⟨((HB.out.cell (World.block_lt_of_cell? w _ hw157_0)).trans hw157_0), ((HB.out.cell (World.block_lt_of_cell? w _ hw157_1)).trans hw157_1), ((HB.out.cell (World.block_lt_of_cell? w _ hw157_2)).trans hw157_2), ((HB.out.cell (World.block_lt_of_cell? w _ hw157_3)).trans hw157_3), ((HB.out.cell (World.block_lt_of_cell? w _ hw157_4)).trans hw157_4), ((HB.out.cell (World.block_lt_of_cell? w _ hw157_5)).trans hw157_5), HS6_, ((HB.out.cell (World.block_lt_of_cell? w _ hw167_0)).trans hw167_0), ((HB.out.cell (World.block_lt_of_cell? w _ hw167_1)).trans hw167_1), ((HB.out.cell (World.block_lt_of_cell? w _ hw167_2)).trans hw167_2), ((HB.out.cell (World.block_lt_of_cell? w _ hw167_3)).trans hw167_3), ((HB.out.cell (World.block_lt_of_cell? w _ hw167_4)).trans hw167_4), ((HB.out.cell (World.block_lt_of_cell? w _ hw167_5)).trans hw167_5), HS13_, HS14_, trivial⟩ (fun hHeld => ?_)
                                      refine more_ (S2 := fun w' => w'.cell? ad157 = some (.int .i64 ((rd_T177 l0 0).f0)) ∧ w'.cell? ⟨ad157.block, ad157.off + 1, none⟩ = some (.int .i64 ((rd_T177 l0 0).f1)) ∧ w'.cell? ⟨ad157.block, ad157.off + 2, none⟩ = some (.int .i64 ((rd_T177 l0 0).f2.f0)) ∧ w'.cell? ⟨ad157.block, ad157.off + 3, none⟩ = some (.int .i64 ((rd_T177 l0 0).f2.f1)) ∧ w'.cell? ⟨ad157.block, ad157.off + 4, none⟩ = some (.int .i64 ((rd_T177 l0 0).f2.f2)) ∧ w'.cell? ⟨ad157.block, ad157.off + 5, none⟩ = some (.slice A157_5 ((rd_T177 l0 0).f3).length c157_5) ∧ w'.cell? (ad165.add (x8_2).toNat) = some (.int .i64 (rd t151 x8_2)) ∧ w'.cell? ad167 = some (.int .i64 ((rd_T177 l1 0).f0)) ∧ w'.cell? ⟨ad167.block, ad167.off + 1, none⟩ = some (.int .i64 ((rd_T177 l1 0).f1)) ∧ w'.cell? ⟨ad167.block, ad167.off + 2, none⟩ = some (.int .i64 ((rd_T177 l1 0).f2.f0)) ∧ w'.cell? ⟨ad167.block, ad167.off + 3, none⟩ = some (.int .i64 ((rd_T177 l1 0).f2.f1)) ∧ w'.cell? ⟨ad167.block, ad167.off + 4, none⟩ = some (.int .i64 ((rd_T177 l1 0).f2.f2)) ∧ w'.cell? ⟨ad167.block, ad167.off + 5, none⟩ = some (.slice A167_5 ((rd_T177 l1 0).f3).length c167_5) ∧ w'.cell? (ad175.add (x9_3).toNat) = some (.int .i64 (rd t154 x9_3)) ∧ w'.cell? (ad166.add ((rd t151 x8_2)).toNat) = some (.int .i64 (rd t162 (rd t151 x8_2))) ∧ w'.cell? (ad176.add ((rd t154 x9_3)).toNat) = some (.int .i64 (rd t172 (rd t154 x9_3)))) (fun w' h => ⟨h.1, h.2.1, h.2.2.1, h.2.2.2.1, h.2.2.2.2.1, h.2.2.2.2.2.1, h.2.2.2.2.2.2.1, h.2.2.2.2.2.2.2.1, h.2.2.2.2.2.2.2.2.1, h.2.2.2.2.2.2.2.2.2.1, h.2.2.2.2.2.2.2.2.2.2.1, h.2.2.2.2.2.2.2.2.2.2.2.1, h.2.2.2.2.2.2.2.2.2.2.2.2.1, h.2.2.2.2.2.2.2.2.2.2.2.2.2.1, h.2.2.2.2.2.2.2.2.2.2.2.2.2.2.1, trivial⟩) ⟨hHeld.1, hHeld.2.1, hHeld.2.2.1, hHeld.2.2.2.1, hHeld.2.2.2.2.1, hHeld.2.2.2.2.2.1, hHeld.2.2.2.2.2.2.1, hHeld.2.2.2.2.2.2.2.1, hHeld.2.2.2.2.2.2.2.2.1, hHeld.2.2.2.2.2.2.2.2.2.1, hHeld.2.2.2.2.2.2.2.2.2.2.1, hHeld.2.2.2.2.2.2.2.2.2.2.2.1, hHeld.2.2.2.2.2.2.2.2.2.2.2.2.1, hHeld.2.2.2.2.2.2.2.2.2.2.2.2.2.1, hHeld.2.2.2.2.2.2.2.2.2.2.2.2.2.2.1, hx176_0⟩ (fun hHeld => ?_)
                                      clear hK K
                                      refine nx_ (N := some 57) ?_
                                      refine px_ (i := 27) (N := some 62) (bz 32 268435455) (any_of HT_.out (by kernel_rfl)) ?_
                                      refine tx_ (i := 28) (N := some 63) (bz 32 536870911) rfl rfl (take_ofW HT_.out HW_.out (by kernel_rfl)) hHeld (by rintro w' ⟨s0, s1, s2, s3, s4, s5, s6, s7, s8, s9, s10, s11, s12, s13, s14, s15⟩; go_simp; with_reducible rfl) ?_
                                      refine px_ (i := 29) (N := some 64) (bz 32 1073741823) (any_of HT_.out (by kernel_rfl)) ?_
                                      refine px_ (i := 30) (N := some 65) (bz 32 2147483647) (any_of HT_.out (by kernel_rfl)) ?_
                                      refine px_ (i := 31) (N := some 10) (bz 32 4294967295) (any_of HT_.out (by kernel_rfl)) ?_
                                      refine done_ (done_of HT_.out (by kernel_rfl)) ?_
                                      try go_wp2
                                      go_roundg k3
                                      case measure => have := HJ2.out; have := HK2.out; have := HK3.out; omega
                                      case rel => exact ⟨(ji31), (wrap64 (x9_3 + 1)), (by first | rfl | (simp; done) | (simp only [← hji31] <;> (first | rfl | simp)) | (simp [*]; done)), (by first | rfl | (simp; done) | (simp [*]; done)), H', ⟨by have := HJ2.out; have := HK2.out; have := HK3.out; omega⟩, ⟨by (with_reducible repeat (first | apply Kd.R_alloc | apply Kd.R_drewN | apply Kd.R_drew)); exact Kd.R_mono HO_5.out (fun _ hk => hk.1.1)⟩, ⟨by (with_reducible repeat (first | apply Kd.R_alloc | apply Kd.R_drewN | apply Kd.R_drew)); exact Kd.R_mono HO_6.out (fun _ hk => hk.1.1)⟩, ⟨by repeat (first | (with_reducible first | exact HB.out | apply below_alloc | apply pw_below_drewN | apply below_drew1) | exact HB.out)⟩⟩
                                    · rw [if_neg c29] at H
                                      exact absurd H (by simp)
                                  · rw [if_neg c28] at H
                                    exact absurd H (by simp)
                                · rw [if_neg c27] at H
                                  exact absurd H (by simp)
                              · rw [if_neg c23] at H
                                exact absurd H (by simp)
                            · rw [if_neg c22] at H
                              exact absurd H (by simp)
                          · rw [if_neg c21] at H
                            exact absurd H (by simp)
                        · rw [if_neg c20] at H
                          exact absurd H (by simp)
                      · rw [if_neg c19] at H
                        exact absurd H (by simp)
                    · rw [if_neg c15] at H
                      exact absurd H (by simp)
                  · rw [if_neg c14] at H
                    have c14b0 : decide (x9_3 < (t154.length : Int)) = false := decide_eq_false c14
                    clear c14
                    have H' := Aside0.mk H
                    clear H
                    obtain ⟨Ao40, co40, eo40⟩ := Kd.R_slice HO_6.out
                    subst eo40
                    go_wp2
                    go_roundg k3
                    case measure => have := HJ2.out; have := HK2.out; have := HK3.out; omega
                    case rel => exact ⟨(x7_3), (wrap64 (x8_2 + 1)), (by first | rfl | (simp; done) | (simp [*]; done)), (by first | rfl | (simp; done) | (simp [*]; done)), H', ⟨by have := HJ2.out; have := HK2.out; have := HK3.out; omega⟩, ⟨by (with_reducible repeat (first | apply Kd.R_alloc | apply Kd.R_drewN | apply Kd.R_drew)); exact HO_5.out⟩, ⟨by (with_reducible repeat (first | apply Kd.R_alloc | apply Kd.R_drewN | apply Kd.R_drew)); exact HO_6.out⟩, ⟨by repeat (first | (with_reducible first | exact HB.out | apply below_alloc | apply pw_below_drewN | apply below_drew1) | exact HB.out)⟩⟩
            · rw [if_neg c12] at H
              have c12b0 : decide (x8_2 < (t151.length : Int)) = false := decide_eq_false c12
              clear c12
              obtain rfl := Option.some.inj H
              obtain ⟨Ao41, co41, eo41⟩ := Kd.R_slice HO_5.out
              subst eo41
              go_wp2
              go_ret
              exact ⟨by first | rfl | (simp [errW_none, errW_some] <;> rfl) | (simp [*, errW_none, errW_some] <;> rfl), by repeat (first | (with_reducible first | exact HB.out | apply below_alloc | apply pw_below_drewN | apply below_drew1) | exact HB.out)⟩

end Go.Proofs.Ytaifcchkflcbhaa.PFnExactGapOf
