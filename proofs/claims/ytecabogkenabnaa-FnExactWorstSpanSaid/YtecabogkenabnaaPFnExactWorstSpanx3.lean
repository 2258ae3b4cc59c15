-- by a program of this session's, over the kit's words
import Derived.Test.YtecabogkenabnaaPFnExactWorstSpanx0
import Derived.Test.YtecabogkenabnaaPFnExactWorstSpanx2
namespace Go.Proofs.Ytecabogkenabnaa.PFnExactWorstSpan
open Go.RowKit Go.Proofs.YtecabogkenabnaaW.PrintWords Go.Proofs.YtecabogkenabnaaW.PrintLast Go.Proofs.YtecabogkenabnaaW.PrintMore Go.Proofs.YtecabogkenabnaaV
attribute [local go_sem] max2_int min2_int max_two min_two max_three min_three max_four min_four   -- for this text's walks alone
set_option linter.unusedVariables false
set_option linter.unusedSimpArgs false

/-! ### spec_VecTop: function 42 -/
def spec_VecTop.f (a0_0 : Int) (a0_1 : Int) (a0_2 : Int) : Option (Int) := some (mx (mx a0_0 a0_1) a0_2)
set_option maxHeartbeats 8000000 in
set_option maxRecDepth 100000 in
theorem spec_VecTop.calls (a0_0 : Int) (a0_1 : Int) (a0_2 : Int) (r : Int) (w : World) (h : spec_VecTop.f a0_0 a0_1 a0_2 = some r) :
    Calls Try.prog 42 #[.agg #[.int .i64 a0_0, .int .i64 a0_1, .int .i64 a0_2]] w fun e w' => e = .returned (.int .i64 r) ∧ Below w.heap.size w w' := by
  have hu39 := Try.underlying39
  have HB := Aside0.mk (Below.refl w.heap.size w)
  have H : (some (mx (mx a0_0 a0_1) a0_2)) = some r := h
  clear h
  obtain ⟨ji2, hji2⟩ : ∃ j_ : Int, (mx a0_0 a0_1) = j_ := ⟨_, rfl⟩
  replace H : (some (mx (ji2) a0_2)) = some r := by first | (rw [hji2] at H; exact H) | (simp only [hji2] at H ⊢; exact H)
  have hji2_ : (if a0_0 < a0_1 then a0_1 else a0_0) = ji2 := hji2
  obtain ⟨ji3, hji3⟩ : ∃ j_ : Int, (mx (ji2) a0_2) = j_ := ⟨_, rfl⟩
  replace H : (some ji3) = some r := by first | (rw [hji3] at H; exact H) | (simp only [hji3] at H ⊢; exact H)
  have hji3_ : (if (ji2) < a0_2 then a0_2 else (ji2)) = ji3 := hji3
  obtain rfl := Option.some.inj H
  go_enter Try.func42, Try.ntmps42
  go_wp2_with (first | ((with_reducible refine gate_dst (N := 1) rfl ?_); refine box_event ?hg (N := 1) ?hd (cs := #[.int .i64 a0_0, .int .i64 a0_1, .int .i64 a0_2]) (t := 39) ?hr ?_; (case hd => rfl); (case hg => rfl); (case hr => first | (go_simp; done) | (go_simp; rfl)); intro gb124 hg w4 hbox hb; have n0_ := Aside0.mk (below_step (by repeat (first | (with_reducible first | exact HB.out | apply below_alloc | apply pw_below_drewN | apply below_drew1) | exact HB.out)) hb); have n1_ := Aside0.mk (hbox); have n2_ := Aside0.mk ((by rw [hg]; exact (below_size (by repeat (first | (with_reducible first | exact HB.out | apply below_alloc | apply pw_below_drewN | apply below_drew1) | exact HB.out))) : w.heap.size ≤ gb124)); have n3_ := Aside0.mk ((by rw [hg]; exact (below_size (by repeat (first | (with_reducible first | exact HB.out | apply below_alloc | apply pw_below_drewN | apply below_drew1) | exact HB.out))) : w.heap.size ≤ gb124)); clear HB; have HB := n0_; have BK124 := n1_; have GW124 := n2_; have GE124 := n3_; clear n0_ n1_ n2_ n3_; clear hb hbox hg; have hcz5_0 : w4.cell? ⟨gb124, 0, none⟩ = some (.int .i64 a0_0) := (blk_cell BK124.out 0).trans rfl; have hcz5_1 : w4.cell? ⟨gb124, 1, none⟩ = some (.int .i64 a0_1) := (blk_cell BK124.out 1).trans rfl; have hcz5_2 : w4.cell? ⟨gb124, 2, none⟩ = some (.int .i64 a0_2) := (blk_cell BK124.out 2).trans rfl; have hfz5_0 := blk_frozen BK124.out 0; have hfz5_1 := blk_frozen BK124.out 1; have hfz5_2 := blk_frozen BK124.out 2))
  go_ret
  exact ⟨by first | rfl | (simp [errW_none, errW_some] <;> rfl) | (simp only [← hji2, ← hji3]; first | rfl | (simp [errW_none, errW_some] <;> rfl)) | (simp [*, errW_none, errW_some] <;> rfl), by repeat (first | (with_reducible first | exact HB.out | apply below_alloc | apply pw_below_drewN | apply below_drew1 | refine below_set ?_ GE124.out) | exact HB.out)⟩

/-! ### spec_l19Mains: function 23 -/
mutual
def spec_l19Mains.l0 : Nat → List (S41) → List Int → Int → Option (List Int)
  | 0, _, _, _ => none
  | k + 1, x0, x3, x4 => if x4 < 3 then (spec_l19Mains.j1 k x0 x3 x4 (decide ((x0.length : Int) > 0))) else (spec_l19Mains.j1 k x0 x3 x4 false)
def spec_l19Mains.j1 : Nat → List (S41) → List Int → Int → Bool → Option (List Int)
  | 0, _, _, _, _ => none
  | k + 1, x0, x3, x4, x14 => if x14 = true then (spec_l19Mains.l1 k x0 x3 x4 true 0) else (some x3)
def spec_l19Mains.l1 : Nat → List (S41) → List Int → Int → Bool → Int → Option (List Int)
  | 0, _, _, _, _, _ => none
  | k + 1, x0, x3, x4, x5, x6 => if x6 < (x0.length : Int) then (if x5 = true then (if 0 ≤ x6 then ((spec_l13List.f ((rd_T41 x0 x6).f2.f0) ((rd_T41 x0 x6).f2.f1) ((rd_T41 x0 x6).f2.f2)).bind fun t129 => (if 0 ≤ x4 then (if x4 < (t129.length : Int) then ((spec_VecTop.f ((rd_T41 x0 x6).f2.f0) ((rd_T41 x0 x6).f2.f1) ((rd_T41 x0 x6).f2.f2)).bind fun t134 => (spec_l19Mains.l1 k x0 x3 x4 ((rd t129 x4) == t134) (wrap64 (x6 + 1)))) else (none)) else (none))) else (none)) else (spec_l19Mains.l1 k x0 x3 x4 false (wrap64 (x6 + 1)))) else (if x5 = true then (if x3.length < 17592186044416 then (spec_l19Mains.l0 k x0 (x3 ++ [x4]) (wrap64 (x4 + 1))) else (none)) else (spec_l19Mains.l0 k x0 x3 (wrap64 (x4 + 1))))
end
def spec_l19Mains.f (k : Nat) (l0 : List (S41)) : Option (List Int) := spec_l19Mains.l0 k l0 (([] : List Int)) 0
def spec_l19Mains.T9 : Bool × List (List Nat × List Nat) := (true, [([], []), ([0], [0]), ([1], [1]), ([1], [1]), ([2, 3, 1], [1, 2, 3]), ([4, 1], [1, 4]), ([5, 1], [1, 5]), ([6, 1, 1], [1, 6]), ([1], [1]), ([7, 8, 1], [1, 7, 8]), ([9, 1], [1, 9]), ([1], [1]), ([1], [1]), ([11, 12, 1], [1, 11, 12]), ([13, 1], [1, 13]), ([14, 1], [1, 14]), ([15, 7, 1], [1, 15]), ([10, 16, 1], [1, 10, 16]), ([1, 17], [1, 17]), ([18, 16, 0, 1, 2, 3, 4, 5, 6, 7, 8, 9, 10, 11, 12, 13, 14, 15, 16, 17, 18], [0, 18])])
def spec_l19Mains.B9 : List Nat := [0, 1, 3, 3, 15, 31, 63, 127, 3, 511, 1023, 3, 3, 6147, 14339, 30723, 63743, 131071, 262143, 524287]
theorem spec_l19Mains.tab9 : rtab .any (opsOf Try.f23 9) = spec_l19Mains.T9 := by kernel_rfl
theorem spec_l19Mains.bits9 : waitsOk spec_l19Mains.T9.2 spec_l19Mains.B9 = true := by kernel_rfl
set_option maxHeartbeats 8000000 in
set_option maxRecDepth 100000 in
theorem spec_l19Mains.calls (k : Nat) (A0 : Option Addr) (c0 : Nat) (l0 : List (S41)) (r : List Int) (w : World) (hr0 : Kd.C k41 w A0 l0.length l0) (hc0 : l0.length ≤ c0) (h : spec_l19Mains.f k l0 = some r) :
    Calls Try.prog 23 #[.slice A0 l0.length c0] w fun e w' => ∃ v0_ : Value, e = .returned (v0_) ∧ Kd.R (Kd.int .i64) 3 w' w.heap.size (fun _ => True) v0_ r ∧ Below w.heap.size w w' := by
  have hu39 := Try.underlying39
  have HR0 := Aside0.mk hr0
  have HC0 := Aside0.mk hc0
  clear hr0 hc0
  have HB := Aside0.mk (Below.refl w.heap.size w)
  have H : (spec_l19Mains.l0 k l0 (([] : List Int)) 0) = some r := h
  clear h
  obtain ⟨y125, hy125⟩ : ∃ y_ : List Int, y_ = (([] : List Int)) := ⟨_, rfl⟩
  replace H : (spec_l19Mains.l0 k l0 y125 0) = some r := by first | (rw [hy125]; with_reducible exact H) | (have H2_ := (Option.bind_some _ _).symm.trans H; rw [hy125]; with_reducible exact H2_) | (have H2_ := (Option.bind_some _ _).symm.trans H; with_reducible exact H2_) | with_reducible exact H | (rw [hy125]; exact H) | exact H
  have Ny125 := Aside0.mk hy125
  clear hy125
  have H' := Aside0.mk H
  clear H
  go_enter Try.func23, Try.ntmps23
  go_wp2_with (first | ((with_reducible refine gate_dst (N := 7) rfl ?_); (try (refine gate_guard (by rfl) ?_; dsimp only)); refine Kd.R_lit (Kd.int .i64) _ 3 ?hg (N := 7) ?hd (xs := ([] : List Int)) (inner := []) (ok := fun _ => True) (okp := fun _ => True) ?hr ?hp (fun _ hk => hk) trivial (Below.refl _ _) (Nat.le_refl _) (by simp) ?_; (case hd => rfl); (case hg => rfl); (case hr => first | (go_simp; done) | (go_simp; rfl)); (case hp => exact (Reps.none _ _)); intro v126 w2 ho3 hb hg_ hnew_; clear hg_ hnew_; (first | rw [← Ny125.out] at ho3 | (simp only [Int.reduceToNat] at ho3; rw [← Ny125.out] at ho3)); have n0_ := Aside0.mk (Kd.R_lower ho3 (below_size (by repeat (first | (with_reducible first | exact HB.out | apply below_alloc | apply pw_below_drewN | apply below_drew1) | exact HB.out)))); have n1_ := Aside0.mk (below_step (by repeat (first | (with_reducible first | exact HB.out | apply below_alloc | apply pw_below_drewN | apply below_drew1) | exact HB.out)) hb); clear HB; have HO127 := n0_; have HB := n1_; clear n0_ n1_; clear hb ho3))
  go_loopg [3, 4] k (fun kq v3 v4 w' => ∃ (x3_1 : List Int) (x4_1 : Int), v4 = .int .i64 x4_1 ∧ Aside0 (spec_l19Mains.l0 kq l0 x3_1 x4_1 = some r) ∧ Aside0 (kq ≤ k) ∧ Aside0 (Kd.R (Kd.int .i64) 3 w' w.heap.size (fun _ => True) v3 x3_1) ∧ Aside0 (Below w.heap.size w w'))
  case atStart => exact ⟨(y125), (0), (by first | rfl | (simp; done) | (simp [*]; done)), H', ⟨Nat.le_refl _⟩, ⟨by (with_reducible repeat (first | apply Kd.R_alloc | apply Kd.R_drewN | apply Kd.R_drew)); exact HO127.out⟩, ⟨by repeat (first | (with_reducible first | exact HB.out | apply below_alloc | apply pw_below_drewN | apply below_drew1) | exact HB.out)⟩⟩
  case round =>
    clear H'
    try clear c2
    try clear p2
    obtain ⟨x3_1, x4_1, rfl, HA, HK1, HO_3, HB⟩ := hrel
    cases gk with
    | zero => exact absurd HA.out (by simp [spec_l19Mains.l0])
    | succ k1 =>
      have H := HA.out
      clear HA
      simp only [spec_l19Mains.l0] at H
      have HC4 := Aside0.mk H
      clear H
      go_upto_region 3 with (fail)
      go_cut [14] (fun v14 wc => ∃ (kq : Nat) (x14_3 : Bool), v14 = .bool x14_3 ∧ Aside0 (spec_l19Mains.j1 kq l0 x3_1 x4_1 x14_3 = some r) ∧ Aside0 (kq ≤ k1) ∧ Aside0 (Kd.R (Kd.int .i64) 3 wc w.heap.size (fun _ => True) u3 x3_1) ∧ Aside0 (Below w.heap.size w wc))
      case first =>
        have H := HC4.out
        clear HC4
        by_cases c5 : x4_1 < 3
        · rw [if_pos c5] at H
          have c5b0 : decide (x4_1 < 3) = true := decide_eq_true c5
          clear c5
          (first | rw [c5b0] | (simp only [i64_w, i32_w]; rw [c5b0]) | (have cz_ := c5b0; simp only [bne, gt_iff_lt, Int.natCast_pos] at cz_; first | rw [cz_] | (simp only [i64_w, i32_w]; rw [cz_])) | skip)
          have H' := Aside0.mk H
          clear H
          go_wp2
          go_meet
          case rel => exact ⟨_, (decide ((l0.length : Int) > 0)), (by first | rfl | (simp; done) | (simp [*]; done)), H', ⟨by have := HK1.out; first | omega | exact Nat.le_refl _⟩, ⟨by (with_reducible repeat (first | apply Kd.R_alloc | apply Kd.R_drewN | apply Kd.R_drew)); exact HO_3.out⟩, ⟨by repeat (first | (with_reducible first | exact HB.out | apply below_alloc | apply pw_below_drewN | apply below_drew1) | exact HB.out)⟩⟩
        · rw [if_neg c5] at H
          have c5b0 : decide (x4_1 < 3) = false := decide_eq_false c5
          clear c5
          (first | rw [c5b0] | (simp only [i64_w, i32_w]; rw [c5b0]) | (have cz_ := c5b0; simp only [bne, gt_iff_lt, Int.natCast_pos] at cz_; first | rw [cz_] | (simp only [i64_w, i32_w]; rw [cz_])) | skip)
          have H' := Aside0.mk H
          clear H
          go_wp2
          go_meet
          case rel => exact ⟨_, (false), (by first | rfl | (simp; done) | (simp [*]; done)), H', ⟨by have := HK1.out; first | omega | exact Nat.le_refl _⟩, ⟨by (with_reducible repeat (first | apply Kd.R_alloc | apply Kd.R_drewN | apply Kd.R_drew)); exact HO_3.out⟩, ⟨by repeat (first | (with_reducible first | exact HB.out | apply below_alloc | apply pw_below_drewN | apply below_drew1) | exact HB.out)⟩⟩
      case rest =>
        clear HC4
        try clear c2
        try clear p2
        try clear c5
        try clear c5b0
        try clear p2
        obtain ⟨kq, x14_3, rfl, HA, HJ3, HO_3, HB⟩ := hcut
        cases kq with
        | zero => exact absurd HA.out (by simp [spec_l19Mains.j1])
        | succ kj3 =>
          have H := HA.out
          clear HA
          simp only [spec_l19Mains.j1] at H
          by_cases c6 : x14_3 = true
          · subst c6
            rw [if_pos rfl] at H
            have H' := Aside0.mk H
            clear H
            go_wp2
            go_loopg [5, 6] kj3 (fun kq v5 v6 w' => ∃ (x5_3 : Bool) (x6_3 : Int), v5 = .bool x5_3 ∧ v6 = .int .i64 x6_3 ∧ Aside0 (spec_l19Mains.l1 kq l0 x3_1 x4_1 x5_3 x6_3 = some r) ∧ Aside0 (kq ≤ kj3) ∧ Aside0 (Kd.R (Kd.int .i64) 3 w' w.heap.size (fun _ => True) u3 x3_1) ∧ Aside0 (Below w.heap.size w w'))
            case atStart => exact ⟨(true), (0), (by first | rfl | (simp; done) | (simp [*]; done)), (by first | rfl | (simp; done) | (simp [*]; done)), H', ⟨Nat.le_refl _⟩, ⟨by (with_reducible repeat (first | apply Kd.R_alloc | apply Kd.R_drewN | apply Kd.R_drew)); exact HO_3.out⟩, ⟨by repeat (first | (with_reducible first | exact HB.out | apply below_alloc | apply pw_below_drewN | apply below_drew1) | exact HB.out)⟩⟩
            case round =>
              clear H'
              try clear c2
              try clear p2
              try clear c5
              try clear c5b0
              try clear c6
              try clear p2
              obtain ⟨x5_3, x6_3, rfl, rfl, HA, HK3, HO_3, HB⟩ := hrel
              cases gk with
              | zero => exact absurd HA.out (by simp [spec_l19Mains.l1])
              | succ k3 =>
                have H := HA.out
                clear HA
                simp only [spec_l19Mains.l1] at H
                by_cases c7 : x6_3 < (l0.length : Int)
                · rw [if_pos c7] at H
                  have c7b0 : decide (x6_3 < (l0.length : Int)) = true := decide_eq_true c7
                  clear c7
                  by_cases c8 : x5_3 = true
                  · subst c8
                    rw [if_pos rfl] at H
                    by_cases c9 : 0 ≤ x6_3
                    · rw [if_pos c9] at H
                      have c9b0 : decide (0 ≤ x6_3) = true := decide_eq_true c9
                      clear c9
                      obtain ⟨t129, A100, H⟩ := Option.bind_eq_some_iff.mp H
                      (try dsimp only at H)
                      have A10 := Aside0.mk A100
                      clear A100
                      by_cases c11 : 0 ≤ x4_1
                      · rw [if_pos c11] at H
                        have c11b0 : decide (0 ≤ x4_1) = true := decide_eq_true c11
                        clear c11
                        by_cases c12 : x4_1 < (t129.length : Int)
                        · rw [if_pos c12] at H
                          have c12b0 : decide (x4_1 < (t129.length : Int)) = true := decide_eq_true c12
                          clear c12
                          obtain ⟨t134, A130, H⟩ := Option.bind_eq_some_iff.mp H
                          (try dsimp only at H)
                          have A13 := Aside0.mk A130
                          clear A130
                          have H' := Aside0.mk H
                          clear H
                          try go_wp2
                          have n0_ := Aside0.mk (Kd.R_drew HO_3.out)
                          have n1_ := Aside0.mk (below_drew1 HB.out)
                          clear HO_3
                          clear HB
                          have HO_3 := n0_
                          have HB := n1_
                          clear n0_ n1_
                          have p128 : 0 ≤ (x6_3 : Int) := of_decide_eq_true (by first | (with_reducible assumption) | assumption)
                          have q128 : x6_3 < (l0.length : Int) := of_decide_eq_true (by first | (with_reducible assumption) | assumption)
                          obtain ⟨ad128, A128_5, c128_5, e128, hx128_0, hx128_1, hx128_2, hx128_3, hx128_4, hx128_5, hl128_5, hi128_5⟩ := at_T41 HR0.out x6_3 p128 q128
                          have hw128_5 := hx128_5
                          have hw128_4 := hx128_4
                          have hw128_3 := hx128_3
                          have hw128_2 := hx128_2
                          have hw128_1 := hx128_1
                          have hw128_0 := hx128_0
                          cases e128
                          replace hx128_0 := (HB.out.cell (World.block_lt_of_cell? w _ hx128_0)).trans hx128_0
                          replace hx128_1 := (HB.out.cell (World.block_lt_of_cell? w _ hx128_1)).trans hx128_1
                          replace hx128_2 := (HB.out.cell (World.block_lt_of_cell? w _ hx128_2)).trans hx128_2
                          replace hx128_3 := (HB.out.cell (World.block_lt_of_cell? w _ hx128_3)).trans hx128_3
                          replace hx128_4 := (HB.out.cell (World.block_lt_of_cell? w _ hx128_4)).trans hx128_4
                          replace hx128_5 := (HB.out.cell (World.block_lt_of_cell? w _ hx128_5)).trans hx128_5
                          have HR128_5 := Aside0.mk hi128_5
                          have HC128_5 := Aside0.mk hl128_5
                          clear hi128_5 hl128_5
                          replace p128 := eq_true p128
                          replace q128 := eq_true q128
                          have p133 : 0 ≤ (x6_3 : Int) := of_decide_eq_true (by first | (with_reducible assumption) | assumption)
                          have q133 : x6_3 < (l0.length : Int) := of_decide_eq_true (by first | (with_reducible assumption) | assumption)
                          obtain ⟨ad133, A133_5, c133_5, e133, hx133_0, hx133_1, hx133_2, hx133_3, hx133_4, hx133_5, hl133_5, hi133_5⟩ := at_T41 HR0.out x6_3 p133 q133
                          have hw133_5 := hx133_5
                          have hw133_4 := hx133_4
                          have hw133_3 := hx133_3
                          have hw133_2 := hx133_2
                          have hw133_1 := hx133_1
                          have hw133_0 := hx133_0
                          obtain rfl : ad128 = ad133 := (by injection e133)
                          replace hx133_0 := (HB.out.cell (World.block_lt_of_cell? w _ hx133_0)).trans hx133_0
                          replace hx133_1 := (HB.out.cell (World.block_lt_of_cell? w _ hx133_1)).trans hx133_1
                          replace hx133_2 := (HB.out.cell (World.block_lt_of_cell? w _ hx133_2)).trans hx133_2
                          replace hx133_3 := (HB.out.cell (World.block_lt_of_cell? w _ hx133_3)).trans hx133_3
                          replace hx133_4 := (HB.out.cell (World.block_lt_of_cell? w _ hx133_4)).trans hx133_4
                          replace hx133_5 := (HB.out.cell (World.block_lt_of_cell? w _ hx133_5)).trans hx133_5
                          have HR133_5 := Aside0.mk hi133_5
                          have HC133_5 := Aside0.mk hl133_5
                          clear hi133_5 hl133_5
                          replace p133 := eq_true p133
                          replace q133 := eq_true q133
                          have ea_ := Option.some.inj (hx128_5.symm.trans hx133_5)
                          injection ea_ with ea_ en_ ec_
                          subst ea_
                          subst ec_
                          clear en_
                          refine start_ (n := 20) (S := fun w' => w'.cell? (ad128.add ((x6_3).toNat * 6)) = some (.int .i64 ((rd_T41 l0 x6_3).f0)) ∧ w'.cell? ⟨(ad128.add ((x6_3).toNat * 6)).block, (ad128.add ((x6_3).toNat * 6)).off + 1, none⟩ = some (.int .i64 ((rd_T41 l0 x6_3).f1)) ∧ w'.cell? ⟨(ad128.add ((x6_3).toNat * 6)).block, (ad128.add ((x6_3).toNat * 6)).off + 2, none⟩ = some (.int .i64 ((rd_T41 l0 x6_3).f2.f0)) ∧ w'.cell? ⟨(ad128.add ((x6_3).toNat * 6)).block, (ad128.add ((x6_3).toNat * 6)).off + 3, none⟩ = some (.int .i64 ((rd_T41 l0 x6_3).f2.f1)) ∧ w'.cell? ⟨(ad128.add ((x6_3).toNat * 6)).block, (ad128.add ((x6_3).toNat * 6)).off + 4, none⟩ = some (.int .i64 ((rd_T41 l0 x6_3).f2.f2)) ∧ w'.cell? ⟨(ad128.add ((x6_3).toNat * 6)).block, (ad128.add ((x6_3).toNat * 6)).off + 5, none⟩ = some (.slice A128_5 ((rd_T41 l0 x6_3).f3).length c128_5) ∧ w'.cell? (ad128.add ((x6_3).toNat * 6)) = some (.int .i64 ((rd_T41 l0 x6_3).f0)) ∧ w'.cell? ⟨(ad128.add ((x6_3).toNat * 6)).block, (ad128.add ((x6_3).toNat * 6)).off + 1, none⟩ = some (.int .i64 ((rd_T41 l0 x6_3).f1)) ∧ w'.cell? ⟨(ad128.add ((x6_3).toNat * 6)).block, (ad128.add ((x6_3).toNat * 6)).off + 2, none⟩ = some (.int .i64 ((rd_T41 l0 x6_3).f2.f0)) ∧ w'.cell? ⟨(ad128.add ((x6_3).toNat * 6)).block, (ad128.add ((x6_3).toNat * 6)).off + 3, none⟩ = some (.int .i64 ((rd_T41 l0 x6_3).f2.f1)) ∧ w'.cell? ⟨(ad128.add ((x6_3).toNat * 6)).block, (ad128.add ((x6_3).toNat * 6)).off + 4, none⟩ = some (.int .i64 ((rd_T41 l0 x6_3).f2.f2)) ∧ w'.cell? ⟨(ad128.add ((x6_3).toNat * 6)).block, (ad128.add ((x6_3).toNat * 6)).off + 5, none⟩ = some (.slice A128_5 ((rd_T41 l0 x6_3).f3).length c128_5) ∧ True) (ds := []) (bz 20 0) (by kernel_rfl) rfl (by kernel_rfl) ⟨((HB.out.cell (World.block_lt_of_cell? w _ hw128_0)).trans hw128_0), ((HB.out.cell (World.block_lt_of_cell? w _ hw128_1)).trans hw128_1), ((HB.out.cell (World.block_lt_of_cell? w _ hw128_2)).trans hw128_2), ((HB.out.cell (World.block_lt_of_cell? w _ hw128_3)).trans hw128_3), ((HB.out.cell (World.block_lt_of_cell? w _ hw128_4)).trans hw128_4), ((HB.out.cell (World.block_lt_of_cell? w _ hw128_5)).trans hw128_5), ((HB.out.cell (World.block_lt_of_cell? w _ hw133_0)).trans hw133_0), ((HB.out.cell (World.block_lt_of_cell? w _ hw133_1)).trans hw133_1), ((HB.out.cell (World.block_lt_of_cell? w _ hw133_2)).trans hw133_2), ((HB.out.cell (World.block_lt_of_cell? w _ hw133_3)).trans hw133_3), ((HB.out.cell (World.block_lt_of_cell? w _ hw133_4)).trans hw133_4), ((HB.out.cell (World.block_lt_of_cell? w _ hw133_5)).trans hw133_5), trivial⟩ (fun hHeld => ?_); refine with_tabW spec_l19Mains.tab9 spec_l19Mains.bits9 (fun HT_ HW_ => ?_)
                          generalize wr.drew = w14 at HO_3 HB HR128_5 HR133_5 hx128_0 hx128_1 hx128_2 hx128_3 hx128_4 hx128_5 hx133_0 hx133_1 hx133_2 hx133_3 hx133_4 hx133_5 hHeld ⊢
                          refine px_ (i := 0) (N := some 23) (bz 20 1) (any_of HT_.out (by kernel_rfl)) ?_
                          refine px_ (i := 1) (N := some 24) (bz 20 3) (any_of HT_.out (by kernel_rfl)) ?_
                          refine px_ (i := 2) (N := some 25) (bz 20 7) (any_of HT_.out (by kernel_rfl)) ?_
                          refine px_ (i := 3) (N := some 26) (bz 20 15) (any_of HT_.out (by kernel_rfl)) ?_
                          refine px_ (i := 4) (N := some 27) (bz 20 31) (any_of HT_.out (by kernel_rfl)) ?_
                          refine px_ (i := 5) (N := some 28) (bz 20 63) (any_of HT_.out (by kernel_rfl)) ?_
                          refine px_ (i := 8) (N := some 31) (bz 20 319) (any_of HT_.out (by kernel_rfl)) ?_
                          refine px_ (i := 11) (N := some 34) (bz 20 2367) (any_of HT_.out (by kernel_rfl)) ?_
                          refine px_ (i := 12) (N := some 35) (bz 20 6463) (any_of HT_.out (by kernel_rfl)) ?_
                          refine px_ (i := 13) (N := some 36) (bz 20 14655) (any_of HT_.out (by kernel_rfl)) ?_
                          refine px_ (i := 14) (N := some 37) (bz 20 31039) (any_of HT_.out (by kernel_rfl)) ?_
                          refine tx_ (i := 6) (N := some 29) (bz 20 31103) rfl rfl (take_ofW HT_.out HW_.out (by kernel_rfl)) hHeld (by rintro w' ⟨s0, s1, s2, s3, s4, s5, s6, s7, s8, s9, s10, s11, s12⟩; go_simp; with_reducible rfl) ?_
                          refine tx_ (i := 15) (N := some 38) (bz 20 63871) rfl rfl (take_ofW HT_.out HW_.out (by kernel_rfl)) hHeld (by rintro w' ⟨s0, s1, s2, s3, s4, s5, s6, s7, s8, s9, s10, s11, s12⟩; go_simp; with_reducible rfl) ?_
                          refine one_ (i := 7) (N := some 30) (bz 20 63999) rfl rfl (one_of HT_.out (by kernel_rfl)) (by decide) (fun K hK => ?_)
                          refine goes_ Try.func24 (by kernel_rfl) rfl #[.agg #[.int .i64 ((rd_T41 l0 x6_3).f2.f0), .int .i64 ((rd_T41 l0 x6_3).f2.f1), .int .i64 ((rd_T41 l0 x6_3).f2.f2)]] (by rfl) rfl rfl (by (try simp only [List.map_toArray, List.map_cons, List.map_nil]); first | done | rfl | (simp only [List.length_drop, List.length_take]; rfl)) ?_
                          with_reducible refine (spec_l13List.calls ((rd_T41 l0 x6_3).f2.f0) ((rd_T41 l0 x6_3).f2.f1) ((rd_T41 l0 x6_3).f2.f2) t129 _ A10.out).mono ?_
                          rintro e w15 ⟨v130, rfl, ho0, hb⟩
                          refine ⟨_, rfl, ?_⟩
                          have n0_ := Aside0.mk (Kd.R_elder' (by (with_reducible repeat (first | apply Kd.R_alloc | apply Kd.R_drewN | apply Kd.R_drew)); exact HO_3.out) (Kd.R_base ho0) hb)
                          have n1_ := Aside0.mk (Kd.R_lower (Kd.R_new' ho0 (Kd.R_lt (by (with_reducible repeat (first | apply Kd.R_alloc | apply Kd.R_drewN | apply Kd.R_drew)); exact HO_3.out))) (below_size (by repeat (first | (with_reducible first | exact HB.out | apply below_alloc | apply pw_below_drewN | apply below_drew1) | exact HB.out))))
                          have n2_ := Aside0.mk (below_step (by repeat (first | (with_reducible first | exact HB.out | apply below_alloc | apply pw_below_drewN | apply below_drew1) | exact HB.out)) hb)
                          clear HO_3
                          clear HB
                          have HO_3 := n0_
                          have HO131 := n1_
                          have HB := n2_
                          clear n0_ n1_ n2_
                          (try clear hb)
                          (try clear hb2)
                          (try clear hk)
                          (try clear hi)
                          (try clear ho0)
                          obtain ⟨Ao16, co16, eo16⟩ := Kd.R_slice HO131.out
                          (first | subst eo16 | (injection eo16 with f1_ f2_ f3_; have f4_ := f1_.symm; have f5_ := f3_.symm; clear f1_ f2_ f3_; subst f4_; subst f5_))
                          have p132 : 0 ≤ (x4_1 : Int) := of_decide_eq_true (by first | (with_reducible assumption) | assumption)
                          have q132 : x4_1 < (t129.length : Int) := of_decide_eq_true (by first | (with_reducible assumption) | assumption)
                          obtain ⟨ad132, e132, hx132_0⟩ := Kd.at_int (Kd.R_reads' HO131.out).2.2 x4_1 p132 q132
                          cases e132
                          replace p132 := eq_true p132
                          replace q132 := eq_true q132
                          refine hK.out _ _ ⟨((HB.out.cell (World.block_lt_of_cell? w _ hw128_0)).trans hw128_0), ((HB.out.cell (World.block_lt_of_cell? w _ hw128_1)).trans hw128_1), ((HB.out.cell (World.block_lt_of_cell? w _ hw128_2)).trans hw128_2), ((HB.out.cell (World.block_lt_of_cell? w _ hw128_3)).trans hw128_3), ((HB.out.cell (World.block_lt_of_cell? w _ hw128_4)).trans hw128_4), ((HB.out.cell (World.block_lt_of_cell? w _ hw128_5)).trans hw128_5), ((HB.out.cell (World.block_lt_of_cell? w _ hw133_0)).trans hw133_0), ((HB.out.cell (World.block_lt_of_cell? w _ hw133_1)).trans hw133_1), ((HB.out.cell (World.block_lt_of_cell? w _ hw133_2)).trans hw133_2), ((HB.out.cell (World.block_lt_of_cell? w _ hw133_3)).trans hw133_3), ((HB.out.cell (World.block_lt_of_cell? w _ hw133_4)).trans hw133_4), ((HB.out.cell (World.block_lt_of_cell? w _ hw133_5)).trans hw133_5), trivial⟩ (fun hHeld => ?_)
                          refine more_ (S2 := fun w' => w'.cell? (ad128.add ((x6_3).toNat * 6)) = some (.int .i64 ((rd_T41 l0 x6_3).f0)) ∧ w'.cell? ⟨(ad128.add ((x6_3).toNat * 6)).block, (ad128.add ((x6_3).toNat * 6)).off + 1, none⟩ = some (.int .i64 ((rd_T41 l0 x6_3).f1)) ∧ w'.cell? ⟨(ad128.add ((x6_3).toNat * 6)).block, (ad128.add ((x6_3).toNat * 6)).off + 2, none⟩ = some (.int .i64 ((rd_T41 l0 x6_3).f2.f0)) ∧ w'.cell? ⟨(ad128.add ((x6_3).toNat * 6)).block, (ad128.add ((x6_3).toNat * 6)).off + 3, none⟩ = some (.int .i64 ((rd_T41 l0 x6_3).f2.f1)) ∧ w'.cell? ⟨(ad128.add ((x6_3).toNat * 6)).block, (ad128.add ((x6_3).toNat * 6)).off + 4, none⟩ = some (.int .i64 ((rd_T41 l0 x6_3).f2.f2)) ∧ w'.cell? ⟨(ad128.add ((x6_3).toNat * 6)).block, (ad128.add ((x6_3).toNat * 6)).off + 5, none⟩ = some (.slice A128_5 ((rd_T41 l0 x6_3).f3).length c128_5) ∧ w'.cell? (ad128.add ((x6_3).toNat * 6)) = some (.int .i64 ((rd_T41 l0 x6_3).f0)) ∧ w'.cell? ⟨(ad128.add ((x6_3).toNat * 6)).block, (ad128.add ((x6_3).toNat * 6)).off + 1, none⟩ = some (.int .i64 ((rd_T41 l0 x6_3).f1)) ∧ w'.cell? ⟨(ad128.add ((x6_3).toNat * 6)).block, (ad128.add ((x6_3).toNat * 6)).off + 2, none⟩ = some (.int .i64 ((rd_T41 l0 x6_3).f2.f0)) ∧ w'.cell? ⟨(ad128.add ((x6_3).toNat * 6)).block, (ad128.add ((x6_3).toNat * 6)).off + 3, none⟩ = some (.int .i64 ((rd_T41 l0 x6_3).f2.f1)) ∧ w'.cell? ⟨(ad128.add ((x6_3).toNat * 6)).block, (ad128.add ((x6_3).toNat * 6)).off + 4, none⟩ = some (.int .i64 ((rd_T41 l0 x6_3).f2.f2)) ∧ w'.cell? ⟨(ad128.add ((x6_3).toNat * 6)).block, (ad128.add ((x6_3).toNat * 6)).off + 5, none⟩ = some (.slice A128_5 ((rd_T41 l0 x6_3).f3).length c128_5) ∧ w'.cell? (ad132.add (x4_1).toNat) = some (.int .i64 (rd t129 x4_1))) (fun w' h => ⟨h.1, h.2.1, h.2.2.1, h.2.2.2.1, h.2.2.2.2.1, h.2.2.2.2.2.1, h.2.2.2.2.2.2.1, h.2.2.2.2.2.2.2.1, h.2.2.2.2.2.2.2.2.1, h.2.2.2.2.2.2.2.2.2.1, h.2.2.2.2.2.2.2.2.2.2.1, h.2.2.2.2.2.2.2.2.2.2.2.1, trivial⟩) ⟨hHeld.1, hHeld.2.1, hHeld.2.2.1, hHeld.2.2.2.1, hHeld.2.2.2.2.1, hHeld.2.2.2.2.2.1, hHeld.2.2.2.2.2.2.1, hHeld.2.2.2.2.2.2.2.1, hHeld.2.2.2.2.2.2.2.2.1, hHeld.2.2.2.2.2.2.2.2.2.1, hHeld.2.2.2.2.2.2.2.2.2.2.1, hHeld.2.2.2.2.2.2.2.2.2.2.2.1, hx132_0⟩ (fun hHeld => ?_)
                          clear hK K
                          refine nx_ (N := some 30) ?_
                          refine px_ (i := 9) (N := some 32) (bz 20 64511) (any_of HT_.out (by kernel_rfl)) ?_
                          refine tx_ (i := 10) (N := some 33) (bz 20 65535) rfl rfl (take_ofW HT_.out HW_.out (by kernel_rfl)) hHeld (by rintro w' ⟨s0, s1, s2, s3, s4, s5, s6, s7, s8, s9, s10, s11, s12⟩; go_simp; with_reducible rfl) ?_
                          refine one_ (i := 16) (N := some 39) (bz 20 131071) rfl rfl (one_of HT_.out (by kernel_rfl)) (by decide) (fun K hK => ?_)
                          refine goes_ Try.func42 (by kernel_rfl) rfl #[.agg #[.int .i64 ((rd_T41 l0 x6_3).f2.f0), .int .i64 ((rd_T41 l0 x6_3).f2.f1), .int .i64 ((rd_T41 l0 x6_3).f2.f2)]] (by rfl) rfl rfl (by (try simp only [List.map_toArray, List.map_cons, List.map_nil]); first | done | rfl | (simp only [List.length_drop, List.length_take]; rfl)) ?_
                          with_reducible refine (spec_VecTop.calls ((rd_T41 l0 x6_3).f2.f0) ((rd_T41 l0 x6_3).f2.f1) ((rd_T41 l0 x6_3).f2.f2) t134 _ A13.out).mono ?_
                          rintro e w17 ⟨rfl, hb⟩
                          have HS12_ := (hb.cell (World.block_lt_of_cell? _ _ (hHeld.2.2.2.2.2.2.2.2.2.2.2.2))).trans (hHeld.2.2.2.2.2.2.2.2.2.2.2.2)
                          refine ⟨_, rfl, ?_⟩
                          have n0_ := Aside0.mk (Kd.R_below (by (with_reducible repeat (first | apply Kd.R_alloc | apply Kd.R_drewN | apply Kd.R_drew)); exact HO_3.out) hb)
                          have n1_ := Aside0.mk (Kd.R_below (by (with_reducible repeat (first | apply Kd.R_alloc | apply Kd.R_drewN | apply Kd.R_drew)); exact HO131.out) hb)
                          have n2_ := Aside0.mk (below_step (by repeat (first | (with_reducible first | exact HB.out | apply below_alloc | apply pw_below_drewN | apply below_drew1) | exact HB.out)) hb)
                          clear HO_3
                          clear HO131
                          clear HB
                          have HO_3 := n0_
                          have HO131 := n1_
                          have HB := n2_
                          clear n0_ n1_ n2_
                          (try clear hb)
                          (try clear hb2)
                          (try clear hk)
                          (try clear hi)
                          refine hK.out _ _ ⟨((HB.out.cell (World.block_lt_of_cell? w _ hw128_0)).trans hw128_0), ((HB.out.cell (World.block_lt_of_cell? w _ hw128_1)).trans hw128_1), ((HB.out.cell (World.block_lt_of_cell? w _ hw128_2)).trans hw128_2), ((HB.out.cell (World.block_lt_of_cell? w _ hw128_3)).trans hw128_3), ((HB.out.cell (World.block_lt_of_cell? w _ hw128_4)).trans hw128_4), ((HB.out.cell (World.block_lt_of_cell? w _ hw128_5)).trans hw128_5), ((HB.out.cell (World.block_lt_of_cell? w _ hw133_0)).trans hw133_0), ((HB.out.cell (World.block_lt_of_cell? w _ hw133_1)).trans hw133_1), ((HB.out.cell (World.block_lt_of_cell? w _ hw133_2)).trans hw133_2), ((HB.out.cell (World.block_lt_of_cell? w _ hw133_3)).trans hw133_3), ((HB.out.cell (World.block_lt_of_cell? w _ hw133_4)).trans hw133_4), ((HB.out.cell (World.block_lt_of_cell? w _ hw133_5)).trans hw133_5), HS12_⟩ (fun hHeld => ?_)
                          clear hK K
                          refine nx_ (N := some 39) ?_
                          refine px_ (i := 17) (N := some 40) (bz 20 262143) (any_of HT_.out (by kernel_rfl)) ?_
                          refine px_ (i := 18) (N := some 41) (bz 20 524287) (any_of HT_.out (by kernel_rfl)) ?_
                          refine px_ (i := 19) (N := some 5) (bz 20 1048575) (any_of HT_.out (by kernel_rfl)) ?_
                          refine done_ (done_of HT_.out (by kernel_rfl)) ?_
                          try go_wp2
                          go_roundg k3
                          case measure => have := HK1.out; have := HJ3.out; have := HK3.out; omega
                          case rel => exact ⟨(((rd t129 x4_1) == t134)), (wrap64 (x6_3 + 1)), (by first | rfl | (simp; done) | (simp [*]; done)), (by first | rfl | (simp; done) | (simp [*]; done)), H', ⟨by have := HK1.out; have := HJ3.out; have := HK3.out; omega⟩, ⟨by (with_reducible repeat (first | apply Kd.R_alloc | apply Kd.R_drewN | apply Kd.R_drew)); exact Kd.R_mono HO_3.out (fun _ hk => trivial)⟩, ⟨by repeat (first | (with_reducible first | exact HB.out | apply below_alloc | apply pw_below_drewN | apply below_drew1) | exact HB.out)⟩⟩
                        · rw [if_neg c12] at H
                          exact absurd H (by simp)
                      · rw [if_neg c11] at H
                        exact absurd H (by simp)
                    · rw [if_neg c9] at H
                      exact absurd H (by simp)
                  · replace c8 := Bool.eq_false_iff.mpr c8
                    subst c8
                    rw [if_neg (show ¬ (false = true) by decide)] at H
                    have H' := Aside0.mk H
                    clear H
                    try go_wp2
                    have n0_ := Aside0.mk (Kd.R_drew HO_3.out)
                    have n1_ := Aside0.mk (below_drew1 HB.out)
                    clear HO_3
                    clear HB
                    have HO_3 := n0_
                    have HB := n1_
                    clear n0_ n1_
                    refine start_ (n := 20) (S := fun w' => True) (ds := []) (bz 20 0) (by kernel_rfl) rfl (by kernel_rfl) trivial (fun hHeld => ?_); refine with_tabW spec_l19Mains.tab9 spec_l19Mains.bits9 (fun HT_ HW_ => ?_)
                    generalize wr.drew = w18 at HO_3 HB hHeld ⊢
                    refine px_ (i := 0) (N := some 23) (bz 20 1) (any_of HT_.out (by kernel_rfl)) ?_
                    refine px_ (i := 1) (N := some 24) (bz 20 3) (any_of HT_.out (by kernel_rfl)) ?_
                    refine ox_ (i := 2) (N := some 25) (bz 20 7) (any_of HT_.out (by kernel_rfl)) ?_
                    refine ox_ (i := 3) (N := some 26) (bz 20 15) (any_of HT_.out (by kernel_rfl)) ?_
                    refine ox_ (i := 4) (N := some 27) (bz 20 31) (any_of HT_.out (by kernel_rfl)) ?_
                    refine ox_ (i := 5) (N := some 28) (bz 20 63) (any_of HT_.out (by kernel_rfl)) ?_
                    refine ox_ (i := 6) (N := some 29) (bz 20 127) (any_of HT_.out (by kernel_rfl)) ?_
                    refine ox_ (i := 7) (N := some 30) (bz 20 255) (any_of HT_.out (by kernel_rfl)) ?_
                    refine ox_ (i := 8) (N := some 31) (bz 20 511) (any_of HT_.out (by kernel_rfl)) ?_
                    refine ox_ (i := 9) (N := some 32) (bz 20 1023) (any_of HT_.out (by kernel_rfl)) ?_
                    refine ox_ (i := 10) (N := some 33) (bz 20 2047) (any_of HT_.out (by kernel_rfl)) ?_
                    refine ox_ (i := 11) (N := some 34) (bz 20 4095) (any_of HT_.out (by kernel_rfl)) ?_
                    refine ox_ (i := 12) (N := some 35) (bz 20 8191) (any_of HT_.out (by kernel_rfl)) ?_
                    refine ox_ (i := 13) (N := some 36) (bz 20 16383) (any_of HT_.out (by kernel_rfl)) ?_
                    refine ox_ (i := 14) (N := some 37) (bz 20 32767) (any_of HT_.out (by kernel_rfl)) ?_
                    refine ox_ (i := 15) (N := some 38) (bz 20 65535) (any_of HT_.out (by kernel_rfl)) ?_
                    refine ox_ (i := 16) (N := some 39) (bz 20 131071) (any_of HT_.out (by kernel_rfl)) ?_
                    refine ox_ (i := 17) (N := some 40) (bz 20 262143) (any_of HT_.out (by kernel_rfl)) ?_
                    refine px_ (i := 18) (N := some 41) (bz 20 524287) (any_of HT_.out (by kernel_rfl)) ?_
                    refine px_ (i := 19) (N := some 5) (bz 20 1048575) (any_of HT_.out (by kernel_rfl)) ?_
                    refine done_ (done_of HT_.out (by kernel_rfl)) ?_
                    try go_wp2
                    go_roundg k3
                    case measure => have := HK1.out; have := HJ3.out; have := HK3.out; omega
                    case rel => exact ⟨(false), (wrap64 (x6_3 + 1)), (by first | rfl | (simp; done) | (simp [*]; done)), (by first | rfl | (simp; done) | (simp [*]; done)), H', ⟨by have := HK1.out; have := HJ3.out; have := HK3.out; omega⟩, ⟨by (with_reducible repeat (first | apply Kd.R_alloc | apply Kd.R_drewN | apply Kd.R_drew)); exact HO_3.out⟩, ⟨by repeat (first | (with_reducible first | exact HB.out | apply below_alloc | apply pw_below_drewN | apply below_drew1) | exact HB.out)⟩⟩
                · rw [if_neg c7] at H
                  have c7b0 : decide (x6_3 < (l0.length : Int)) = false := decide_eq_false c7
                  clear c7
                  by_cases c19 : x5_3 = true
                  · subst c19
                    rw [if_pos rfl] at H
                    by_cases c20 : x3_1.length < 17592186044416
                    · rw [if_pos c20] at H
                      have LMc20 := Aside0.mk c20
                      clear c20
                      obtain ⟨y135, hy135⟩ : ∃ y_ : List Int, y_ = (x3_1 ++ [x4_1]) := ⟨_, rfl⟩
                      replace H : (spec_l19Mains.l0 k3 l0 y135 (wrap64 (x4_1 + 1))) = some r := by first | (rw [hy135]; with_reducible exact H) | (have H2_ := (Option.bind_some _ _).symm.trans H; rw [hy135]; with_reducible exact H2_) | (have H2_ := (Option.bind_some _ _).symm.trans H; with_reducible exact H2_) | with_reducible exact H | (rw [hy135]; exact H) | exact H
                      have Ny135 := Aside0.mk hy135
                      clear hy135
                      have H' := Aside0.mk H
                      clear H
                      go_wp2_with (first | ((with_reducible refine gate_builtin (b := .append) (xs := #[.tmp 43, .tmp 45]) rfl ?_); (try (refine gate_guard (by rfl) ?_; dsimp only)); at_builtin; refine Kd.R_append (Kd.int .i64) (w0 := w) w.heap.size rfl (.tmp 43) (.tmp 45) 35 3 (.int .i64 0) 8 rfl Try.underlying35 info3 rfl (by decide) (by omega) u3 x3_1 x4_1 [.int .i64 x4_1] (fun _ => True) (fun _ => False) rfl rfl ?aP (fun _ hk => hk.elim) ?aF ?aO ?aB ?aS ?aL ?_; (case aP => exact rfl); (case aB => exact (by repeat (first | (with_reducible first | exact HB.out | apply below_alloc | apply pw_below_drewN | apply below_drew1) | exact HB.out))); (case aF => exact (fun _ _ => trivial)); (case aO => exact (by (with_reducible repeat (first | apply Kd.R_alloc | apply Kd.R_drewN | apply Kd.R_drew)); exact HO_3.out)); (case aS => exact (below_size (by repeat (first | (with_reducible first | exact HB.out | apply below_alloc | apply pw_below_drewN | apply below_drew1) | exact HB.out)))); (case aL => have := LMc20.out; omega); intro v136 w21 ho hb hg hat; rw [← Ny135.out] at ho; have n0_ := Aside0.mk (hb); have n1_ := Aside0.mk (ho); clear HB; clear HO_3; have HB := n0_; have HO137 := n1_; clear n0_ n1_; clear ho hb hg hat))
                      go_roundg k3
                      case measure => have := HK1.out; have := HJ3.out; have := HK3.out; omega
                      case rel => exact ⟨(y135), (wrap64 (x4_1 + 1)), (by first | rfl | (simp; done) | (simp [*]; done)), H', ⟨by have := HK1.out; have := HJ3.out; have := HK3.out; omega⟩, ⟨by (with_reducible repeat (first | apply Kd.R_alloc | apply Kd.R_drewN | apply Kd.R_drew)); exact HO137.out⟩, ⟨by repeat (first | (with_reducible first | exact HB.out | apply below_alloc | apply pw_below_drewN | apply below_drew1) | exact HB.out)⟩⟩
                    · rw [if_neg c20] at H
                      exact absurd H (by simp)
                  · replace c19 := Bool.eq_false_iff.mpr c19
                    subst c19
                    rw [if_neg (show ¬ (false = true) by decide)] at H
                    have H' := Aside0.mk H
                    clear H
                    go_wp2
                    go_roundg k3
                    case measure => have := HK1.out; have := HJ3.out; have := HK3.out; omega
                    case rel => exact ⟨(x3_1), (wrap64 (x4_1 + 1)), (by first | rfl | (simp; done) | (simp [*]; done)), H', ⟨by have := HK1.out; have := HJ3.out; have := HK3.out; omega⟩, ⟨by (with_reducible repeat (first | apply Kd.R_alloc | apply Kd.R_drewN | apply Kd.R_drew)); exact HO_3.out⟩, ⟨by repeat (first | (with_reducible first | exact HB.out | apply below_alloc | apply pw_below_drewN | apply below_drew1) | exact HB.out)⟩⟩
          · replace c6 := Bool.eq_false_iff.mpr c6
            subst c6
            rw [if_neg (show ¬ (false = true) by decide)] at H
            obtain rfl := Option.some.inj H
            go_wp2
            go_ret
            exact ⟨_, by first | rfl | (simp [errW_none, errW_some] <;> rfl) | (simp [*, errW_none, errW_some] <;> rfl), by (with_reducible repeat (first | apply Kd.R_alloc | apply Kd.R_drewN | apply Kd.R_drew)); exact HO_3.out, by repeat (first | (with_reducible first | exact HB.out | apply below_alloc | apply pw_below_drewN | apply below_drew1) | exact HB.out)⟩

/-! ### spec_l19Sum: function 25 -/
def spec_l19Sum.l0 : Nat → List (S41) → Int → Int → Int → Int → Option (Int × Int × Int)
  | 0, _, _, _, _, _ => none
  | k + 1, x0, x4, x140000, x140001, x140002 => if x4 < (x0.length : Int) then (if 0 ≤ x4 then (spec_l19Sum.l0 k x0 (wrap64 (x4 + 1)) (wrap64 (x140000 + ((rd_T41 x0 x4).f2.f0))) (wrap64 (x140001 + ((rd_T41 x0 x4).f2.f1))) (wrap64 (x140002 + ((rd_T41 x0 x4).f2.f2)))) else (none)) else (some (x140000, x140001, x140002))
def spec_l19Sum.f (k : Nat) (l0 : List (S41)) : Option (Int × Int × Int) := spec_l19Sum.l0 k l0 0 0 0 0
def spec_l19Sum.T5 : Bool × List (List Nat × List Nat) := (true, [([], []), ([0], [0]), ([], []), ([], []), ([2, 3], [2, 3]), ([4], [4]), ([5], [5]), ([6], [6]), ([1, 7], [1, 7]), ([0, 1, 2, 3, 4, 5, 6, 7, 8], []), ([9, 8, 0, 1, 2, 3, 4, 5, 6, 7, 8], [8, 9])])
def spec_l19Sum.B5 : List Nat := [0, 1, 0, 0, 12, 28, 60, 124, 255, 511, 1023]
theorem spec_l19Sum.tab5 : rtab .any (opsOf Try.f25 5) = spec_l19Sum.T5 := by kernel_rfl
theorem spec_l19Sum.bits5 : waitsOk spec_l19Sum.T5.2 spec_l19Sum.B5 = true := by kernel_rfl
def spec_l19Sum.T6 : Bool × List (List Nat × List Nat) := (true, [([], []), ([0], [0]), ([], []), ([], []), ([2, 3], [2, 3]), ([4], [4]), ([5], [5]), ([6], [6]), ([1, 7], [1, 7]), ([0, 1, 2, 3, 4, 5, 6, 7, 8], []), ([9, 8, 0, 1, 2, 3, 4, 5, 6, 7, 8], [8, 9])])
def spec_l19Sum.B6 : List Nat := [0, 1, 0, 0, 12, 28, 60, 124, 255, 511, 1023]
theorem spec_l19Sum.tab6 : rtab .any (opsOf Try.f25 6) = spec_l19Sum.T6 := by kernel_rfl
theorem spec_l19Sum.bits6 : waitsOk spec_l19Sum.T6.2 spec_l19Sum.B6 = true := by kernel_rfl
def spec_l19Sum.T7 : Bool × List (List Nat × List Nat) := (true, [([], []), ([0], [0]), ([], []), ([], []), ([2, 3], [2, 3]), ([4], [4]), ([5], [5]), ([6], [6]), ([1, 7], [1, 7]), ([0, 1, 2, 3, 4, 5, 6, 7, 8], []), ([9, 8, 0, 1, 2, 3, 4, 5, 6, 7, 8], [8, 9])])
def spec_l19Sum.B7 : List Nat := [0, 1, 0, 0, 12, 28, 60, 124, 255, 511, 1023]
theorem spec_l19Sum.tab7 : rtab .any (opsOf Try.f25 7) = spec_l19Sum.T7 := by kernel_rfl
theorem spec_l19Sum.bits7 : waitsOk spec_l19Sum.T7.2 spec_l19Sum.B7 = true := by kernel_rfl
set_option maxHeartbeats 8000000 in
set_option maxRecDepth 100000 in
theorem spec_l19Sum.calls (k : Nat) (A0 : Option Addr) (c0 : Nat) (l0 : List (S41)) (r1 : Int) (r2 : Int) (r3 : Int) (w : World) (hr0 : Kd.C k41 w A0 l0.length l0) (hc0 : l0.length ≤ c0) (h : spec_l19Sum.f k l0 = some (r1, r2, r3)) :
    Calls Try.prog 25 #[.slice A0 l0.length c0] w fun e w' => e = .returned (.agg #[.int .i64 r1, .int .i64 r2, .int .i64 r3]) ∧ Below w.heap.size w w' := by
  have hu39 := Try.underlying39
  have HR0 := Aside0.mk hr0
  have HC0 := Aside0.mk hc0
  clear hr0 hc0
  have HB := Aside0.mk (Below.refl w.heap.size w)
  have H : (spec_l19Sum.l0 k l0 0 0 0 0) = some (r1, r2, r3) := h
  clear h
  have H' := Aside0.mk H
  clear H
  go_enter Try.func25, Try.ntmps25
  go_wp2_with (first | ((with_reducible refine gate_dst (N := 2) rfl ?_); refine box_event ?hg (N := 2) ?hd (cs := #[.int .i64 0, .int .i64 0, .int .i64 0]) (t := 39) ?hr ?_; (case hd => rfl); (case hg => rfl); (case hr => first | (go_simp; done) | (go_simp; rfl)); intro gb138 hg w2 hbox hb; have n0_ := Aside0.mk (below_step (by repeat (first | (with_reducible first | exact HB.out | apply below_alloc | apply pw_below_drewN | apply below_drew1) | exact HB.out)) hb); have n1_ := Aside0.mk (hbox); have n2_ := Aside0.mk ((by rw [hg]; exact (below_size (by repeat (first | (with_reducible first | exact HB.out | apply below_alloc | apply pw_below_drewN | apply below_drew1) | exact HB.out))) : w.heap.size ≤ gb138)); have n3_ := Aside0.mk ((by rw [hg]; exact (below_size (by repeat (first | (with_reducible first | exact HB.out | apply below_alloc | apply pw_below_drewN | apply below_drew1) | exact HB.out))) : w.heap.size ≤ gb138)); clear HB; have HB := n0_; have BK138 := n1_; have GW138 := n2_; have GE138 := n3_; clear n0_ n1_ n2_ n3_; clear hb hbox hg) | ((with_reducible refine gate_dst (N := 3) rfl ?_); refine box_event ?hg (N := 3) ?hd (cs := #[.int .i64 0, .int .i64 0, .int .i64 0]) (t := 39) ?hr ?_; (case hd => rfl); (case hg => rfl); (case hr => first | (go_simp; done) | (go_simp; rfl)); intro gb139 hg w3 hbox hb; have n0_ := Aside0.mk (blk_below (g := gb138) (o := .cells #[.int .i64 0, .int .i64 0, .int .i64 0] 39 (0, 0)) (by (with_reducible repeat (first | refine blk_drewN ?_ _ | refine blk_drew ?_ | refine blk_alloc ?_ _)); exact BK138.out) hb); have n1_ := Aside0.mk (below_step (by repeat (first | (with_reducible first | exact HB.out | apply below_alloc | apply pw_below_drewN | apply below_drew1 | refine below_set ?_ GE138.out) | exact HB.out)) hb); have n2_ := Aside0.mk (hbox); have n3_ := Aside0.mk ((by rw [hg]; exact (below_size (by repeat (first | (with_reducible first | exact HB.out | apply below_alloc | apply pw_below_drewN | apply below_drew1 | refine below_set ?_ GE138.out) | exact HB.out))) : w.heap.size ≤ gb139)); have n4_ := Aside0.mk ((by rw [hg]; exact (below_size (by repeat (first | (with_reducible first | exact HB.out | apply below_alloc | apply pw_below_drewN | apply below_drew1 | refine below_set ?_ GE138.out) | exact HB.out))) : w.heap.size ≤ gb139)); have n5_ := Aside0.mk ((by rw [hg]; exact Nat.ne_of_lt (blk_lt (g := gb138) (o := .cells #[.int .i64 0, .int .i64 0, .int .i64 0] 39 (0, 0)) (by (with_reducible repeat (first | refine blk_drewN ?_ _ | refine blk_drew ?_ | refine blk_alloc ?_ _)); exact BK138.out)) : gb138 ≠ gb139)); have n6_ := Aside0.mk ((by rw [hg]; exact Nat.ne_of_gt (blk_lt (g := gb138) (o := .cells #[.int .i64 0, .int .i64 0, .int .i64 0] 39 (0, 0)) (by (with_reducible repeat (first | refine blk_drewN ?_ _ | refine blk_drew ?_ | refine blk_alloc ?_ _)); exact BK138.out)) : gb139 ≠ gb138)); clear BK138; clear HB; have BK138 := n0_; have HB := n1_; have BK139 := n2_; have GW139 := n3_; have GE139 := n4_; have NB138_139 := n5_; have NB139_138 := n6_; clear n0_ n1_ n2_ n3_ n4_ n5_ n6_; clear hb hbox hg; (try have hnb4 := NB139_138.out); (try have hnc4 := NB138_139.out); have hcz5_0 : w3.cell? ⟨gb139, 0, none⟩ = some (.int .i64 0) := (blk_cell BK139.out 0).trans rfl; have hcz5_1 : w3.cell? ⟨gb139, 1, none⟩ = some (.int .i64 0) := (blk_cell BK139.out 1).trans rfl; have hcz5_2 : w3.cell? ⟨gb139, 2, none⟩ = some (.int .i64 0) := (blk_cell BK139.out 2).trans rfl; have hfz5_0 := blk_frozen BK139.out 0; have hfz5_1 := blk_frozen BK139.out 1; have hfz5_2 := blk_frozen BK139.out 2))
  go_loopg [4] k (fun kq v4 w' => ∃ (x4_1 : Int) (x140000_1 : Int) (x140001_1 : Int) (x140002_1 : Int), v4 = .int .i64 x4_1 ∧ Aside0 (spec_l19Sum.l0 kq l0 x4_1 x140000_1 x140001_1 x140002_1 = some (r1, r2, r3)) ∧ Aside0 (kq ≤ k) ∧ Aside0 (w'.heap[gb138]? = some (.cells #[.int .i64 0, .int .i64 0, .int .i64 0] 39 (0, 0))) ∧ Aside0 (w'.heap[gb139]? = some (.cells #[.int .i64 x140000_1, .int .i64 x140001_1, .int .i64 x140002_1] 39 (0, 0))) ∧ Aside0 (Below w.heap.size w w'))
  case atStart => exact ⟨(0), (0), (0), (0), (by first | rfl | (simp; done) | (simp [*]; done)), H', ⟨Nat.le_refl _⟩, ⟨by (with_reducible repeat (first | refine blk_drewN ?_ _ | refine blk_drew ?_ | refine blk_alloc ?_ _)); refine blk_far ?_ NB138_139.out _; (with_reducible repeat (first | refine blk_drewN ?_ _ | refine blk_drew ?_ | refine blk_alloc ?_ _)); refine blk_far ?_ NB138_139.out _; (with_reducible repeat (first | refine blk_drewN ?_ _ | refine blk_drew ?_ | refine blk_alloc ?_ _)); refine blk_far ?_ NB138_139.out _; (with_reducible repeat (first | refine blk_drewN ?_ _ | refine blk_drew ?_ | refine blk_alloc ?_ _)); exact BK138.out⟩, ⟨by (with_reducible repeat (first | refine blk_drewN ?_ _ | refine blk_drew ?_ | refine blk_alloc ?_ _)); refine blk_put (cs := #[.int .i64 0, .int .i64 0, .int .i64 0]) ?_ 2 _ rfl; (with_reducible repeat (first | refine blk_drewN ?_ _ | refine blk_drew ?_ | refine blk_alloc ?_ _)); refine blk_put (cs := #[.int .i64 0, .int .i64 0, .int .i64 0]) ?_ 1 _ rfl; (with_reducible repeat (first | refine blk_drewN ?_ _ | refine blk_drew ?_ | refine blk_alloc ?_ _)); refine blk_put (cs := #[.int .i64 0, .int .i64 0, .int .i64 0]) ?_ 0 _ rfl; (with_reducible repeat (first | refine blk_drewN ?_ _ | refine blk_drew ?_ | refine blk_alloc ?_ _)); exact BK139.out⟩, ⟨by repeat (first | (with_reducible first | exact HB.out | apply below_alloc | apply pw_below_drewN | apply below_drew1 | refine below_set ?_ GE138.out | refine below_set ?_ GE139.out) | exact HB.out)⟩⟩
  case round =>
    clear H'
    try clear c2
    try clear p2
    try clear c4
    try clear hcz5_0
    try clear hcz5_1
    try clear hcz5_2
    try clear hfz5_0
    try clear hfz5_1
    try clear hfz5_2
    obtain ⟨x4_1, x140000_1, x140001_1, x140002_1, rfl, HA, HK1, BK138, BK139, HB⟩ := hrel
    cases gk with
    | zero => exact absurd HA.out (by simp [spec_l19Sum.l0])
    | succ k1 =>
      have H := HA.out
      clear HA
      simp only [spec_l19Sum.l0] at H
      by_cases c6 : x4_1 < (l0.length : Int)
      · rw [if_pos c6] at H
        have c6b0 : decide (x4_1 < (l0.length : Int)) = true := decide_eq_true c6
        clear c6
        by_cases c7 : 0 ≤ x4_1
        · rw [if_pos c7] at H
          have c7b0 : decide (0 ≤ x4_1) = true := decide_eq_true c7
          clear c7
          have H' := Aside0.mk H
          clear H
          try go_wp2
          have n0_ := Aside0.mk (blk_drew BK138.out)
          have n1_ := Aside0.mk (blk_drew BK139.out)
          have n2_ := Aside0.mk (below_drew1 HB.out)
          clear BK138
          clear BK139
          clear HB
          have BK138 := n0_
          have BK139 := n1_
          have HB := n2_
          clear n0_ n1_ n2_
          have p140 : 0 ≤ (x4_1 : Int) := of_decide_eq_true (by first | (with_reducible assumption) | assumption)
          have q140 : x4_1 < (l0.length : Int) := of_decide_eq_true (by first | (with_reducible assumption) | assumption)
          obtain ⟨ad140, A140_5, c140_5, e140, hx140_0, hx140_1, hx140_2, hx140_3, hx140_4, hx140_5, hl140_5, hi140_5⟩ := at_T41 HR0.out x4_1 p140 q140
          have hw140_5 := hx140_5
          have hw140_4 := hx140_4
          have hw140_3 := hx140_3
          have hw140_2 := hx140_2
          have hw140_1 := hx140_1
          have hw140_0 := hx140_0
          cases e140
          replace hx140_0 := (HB.out.cell (World.block_lt_of_cell? w _ hx140_0)).trans hx140_0
          replace hx140_1 := (HB.out.cell (World.block_lt_of_cell? w _ hx140_1)).trans hx140_1
          replace hx140_2 := (HB.out.cell (World.block_lt_of_cell? w _ hx140_2)).trans hx140_2
          replace hx140_3 := (HB.out.cell (World.block_lt_of_cell? w _ hx140_3)).trans hx140_3
          replace hx140_4 := (HB.out.cell (World.block_lt_of_cell? w _ hx140_4)).trans hx140_4
          replace hx140_5 := (HB.out.cell (World.block_lt_of_cell? w _ hx140_5)).trans hx140_5
          have HR140_5 := Aside0.mk hi140_5
          have HC140_5 := Aside0.mk hl140_5
          clear hi140_5 hl140_5
          replace p140 := eq_true p140
          replace q140 := eq_true q140
          refine start_ (n := 11) (S := fun w' => w'.cell? ⟨gb139, 0, none⟩ = some (.int .i64 x140000_1) ∧ w'.cell? ⟨gb139, 1, none⟩ = some (.int .i64 x140001_1) ∧ w'.cell? ⟨gb139, 2, none⟩ = some (.int .i64 x140002_1) ∧ w'.cell? (ad140.add ((x4_1).toNat * 6)) = some (.int .i64 ((rd_T41 l0 x4_1).f0)) ∧ w'.cell? ⟨(ad140.add ((x4_1).toNat * 6)).block, (ad140.add ((x4_1).toNat * 6)).off + 1, none⟩ = some (.int .i64 ((rd_T41 l0 x4_1).f1)) ∧ w'.cell? ⟨(ad140.add ((x4_1).toNat * 6)).block, (ad140.add ((x4_1).toNat * 6)).off + 2, none⟩ = some (.int .i64 ((rd_T41 l0 x4_1).f2.f0)) ∧ w'.cell? ⟨(ad140.add ((x4_1).toNat * 6)).block, (ad140.add ((x4_1).toNat * 6)).off + 3, none⟩ = some (.int .i64 ((rd_T41 l0 x4_1).f2.f1)) ∧ w'.cell? ⟨(ad140.add ((x4_1).toNat * 6)).block, (ad140.add ((x4_1).toNat * 6)).off + 4, none⟩ = some (.int .i64 ((rd_T41 l0 x4_1).f2.f2)) ∧ w'.cell? ⟨(ad140.add ((x4_1).toNat * 6)).block, (ad140.add ((x4_1).toNat * 6)).off + 5, none⟩ = some (.slice A140_5 ((rd_T41 l0 x4_1).f3).length c140_5)) (ds := [10]) (bz 11 0) (by kernel_rfl) rfl (by kernel_rfl) ⟨(blk_cell BK139.out 0).trans rfl, (blk_cell BK139.out 1).trans rfl, (blk_cell BK139.out 2).trans rfl, ((HB.out.cell (World.block_lt_of_cell? w _ hw140_0)).trans hw140_0), ((HB.out.cell (World.block_lt_of_cell? w _ hw140_1)).trans hw140_1), ((HB.out.cell (World.block_lt_of_cell? w _ hw140_2)).trans hw140_2), ((HB.out.cell (World.block_lt_of_cell? w _ hw140_3)).trans hw140_3), ((HB.out.cell (World.block_lt_of_cell? w _ hw140_4)).trans hw140_4), ((HB.out.cell (World.block_lt_of_cell? w _ hw140_5)).trans hw140_5)⟩ (fun hHeld => ?_); refine with_tabW spec_l19Sum.tab5 spec_l19Sum.bits5 (fun HT_ HW_ => ?_)
          generalize wr.drew = w8 at BK138 BK139 HB HR140_5 hx140_0 hx140_1 hx140_2 hx140_3 hx140_4 hx140_5 hHeld ⊢
          refine px_ (i := 0) (N := some 12) (bz 11 1) (any_of HT_.out (by kernel_rfl)) ?_
          refine px_ (i := 2) (N := some 14) (bz 11 5) (any_of HT_.out (by kernel_rfl)) ?_
          refine px_ (i := 3) (N := some 15) (bz 11 13) (any_of HT_.out (by kernel_rfl)) ?_
          refine px_ (i := 4) (N := some 16) (bz 11 29) (any_of HT_.out (by kernel_rfl)) ?_
          refine px_ (i := 5) (N := some 17) (bz 11 61) (any_of HT_.out (by kernel_rfl)) ?_
          refine px_ (i := 6) (N := some 18) (bz 11 125) (any_of HT_.out (by kernel_rfl)) ?_
          refine tx_ (i := 1) (N := some 13) (bz 11 127) rfl rfl (take_ofW HT_.out HW_.out (by kernel_rfl)) hHeld (by rintro w' ⟨s0, s1, s2, s3, s4, s5, s6, s7, s8⟩; go_simp; with_reducible rfl) ?_
          refine tx_ (i := 7) (N := some 19) (bz 11 255) rfl rfl (take_ofW HT_.out HW_.out (by kernel_rfl)) hHeld (by rintro w' ⟨s0, s1, s2, s3, s4, s5, s6, s7, s8⟩; go_simp; with_reducible rfl) ?_
          refine px_ (i := 8) (N := some 20) (bz 11 511) (any_of HT_.out (by kernel_rfl)) ?_
          refine px_ (i := 9) (N := some 21) (bz 11 1023) (any_of HT_.out (by kernel_rfl)) ?_
          refine last_ (i := 10) (N := none) (bz 11 2047) rfl rfl (one_of HT_.out (by kernel_rfl)) (by decide) (fun K hK => ?_)
          have hs9 : w8.cell? ⟨gb139, 0, none⟩ = some (.int .i64 x140000_1) := (blk_cell BK139.out 0).trans rfl
          have hfs9 := blk_frozen BK139.out 0
          have hns9_0 := NB138_139.out
          have hms9_0 := NB139_138.out
          refine skip_ (w1 := ?_) (by rfl) rfl ?_ ?_
          rotate_left
          · go_simp
            rfl
          refine hK.out _ _ ?_
          clear hK K
          refine done_ (done_of HT_.out (by kernel_rfl)) ?_
          try go_wp2
          have n0_ : Aside0 ((w8.setCell ⟨gb139, 0, none⟩ (.int .i64 (wrap64 (x140000_1 + ((rd_T41 l0 x4_1).f2.f0))))).heap[gb138]? = some (.cells #[.int .i64 0, .int .i64 0, .int .i64 0] 39 (0, 0))) := ⟨by (with_reducible repeat (first | refine blk_drewN ?_ _ | refine blk_drew ?_ | refine blk_alloc ?_ _)); refine blk_far ?_ NB138_139.out _; (with_reducible repeat (first | refine blk_drewN ?_ _ | refine blk_drew ?_ | refine blk_alloc ?_ _)); exact BK138.out⟩
          have n1_ : Aside0 ((w8.setCell ⟨gb139, 0, none⟩ (.int .i64 (wrap64 (x140000_1 + ((rd_T41 l0 x4_1).f2.f0))))).heap[gb139]? = some (.cells #[.int .i64 (wrap64 (x140000_1 + ((rd_T41 l0 x4_1).f2.f0))), .int .i64 x140001_1, .int .i64 x140002_1] 39 (0, 0))) := ⟨by (with_reducible repeat (first | refine blk_drewN ?_ _ | refine blk_drew ?_ | refine blk_alloc ?_ _)); refine blk_put (cs := #[.int .i64 x140000_1, .int .i64 x140001_1, .int .i64 x140002_1]) ?_ 0 _ rfl; (with_reducible repeat (first | refine blk_drewN ?_ _ | refine blk_drew ?_ | refine blk_alloc ?_ _)); exact BK139.out⟩
          have n2_ : Aside0 (Below w.heap.size w (w8.setCell ⟨gb139, 0, none⟩ (.int .i64 (wrap64 (x140000_1 + ((rd_T41 l0 x4_1).f2.f0)))))) := ⟨by repeat (first | (with_reducible first | exact HB.out | apply below_alloc | apply pw_below_drewN | apply below_drew1 | refine below_set ?_ GE138.out | refine below_set ?_ GE139.out) | exact HB.out)⟩
          (try clear BK138)
          (try clear BK139)
          (try clear HB)
          generalize (w8.setCell ⟨gb139, 0, none⟩ (.int .i64 (wrap64 (x140000_1 + ((rd_T41 l0 x4_1).f2.f0))))) = w10 at n0_ n1_ n2_ ⊢
          have BK138 := n0_
          have BK139 := n1_
          have HB := n2_
          clear n0_ n1_ n2_
          have n0_ := Aside0.mk (blk_drew BK138.out)
          have n1_ := Aside0.mk (blk_drew BK139.out)
          have n2_ := Aside0.mk (below_drew1 HB.out)
          clear BK138
          clear BK139
          clear HB
          have BK138 := n0_
          have BK139 := n1_
          have HB := n2_
          clear n0_ n1_ n2_
          have p141 : 0 ≤ (x4_1 : Int) := of_decide_eq_true (by first | (with_reducible assumption) | assumption)
          have q141 : x4_1 < (l0.length : Int) := of_decide_eq_true (by first | (with_reducible assumption) | assumption)
          obtain ⟨ad141, A141_5, c141_5, e141, hx141_0, hx141_1, hx141_2, hx141_3, hx141_4, hx141_5, hl141_5, hi141_5⟩ := at_T41 HR0.out x4_1 p141 q141
          have hw141_5 := hx141_5
          have hw141_4 := hx141_4
          have hw141_3 := hx141_3
          have hw141_2 := hx141_2
          have hw141_1 := hx141_1
          have hw141_0 := hx141_0
          obtain rfl : ad140 = ad141 := (by injection e141)
          replace hx141_0 := (HB.out.cell (World.block_lt_of_cell? w _ hx141_0)).trans hx141_0
          replace hx141_1 := (HB.out.cell (World.block_lt_of_cell? w _ hx141_1)).trans hx141_1
          replace hx141_2 := (HB.out.cell (World.block_lt_of_cell? w _ hx141_2)).trans hx141_2
          replace hx141_3 := (HB.out.cell (World.block_lt_of_cell? w _ hx141_3)).trans hx141_3
          replace hx141_4 := (HB.out.cell (World.block_lt_of_cell? w _ hx141_4)).trans hx141_4
          replace hx141_5 := (HB.out.cell (World.block_lt_of_cell? w _ hx141_5)).trans hx141_5
          have HR141_5 := Aside0.mk hi141_5
          have HC141_5 := Aside0.mk hl141_5
          clear hi141_5 hl141_5
          replace p141 := eq_true p141
          replace q141 := eq_true q141
          refine start_ (n := 11) (S := fun w' => w'.cell? ⟨gb139, 0, none⟩ = some (.int .i64 (wrap64 (x140000_1 + ((rd_T41 l0 x4_1).f2.f0)))) ∧ w'.cell? ⟨gb139, 1, none⟩ = some (.int .i64 x140001_1) ∧ w'.cell? ⟨gb139, 2, none⟩ = some (.int .i64 x140002_1) ∧ w'.cell? (ad140.add ((x4_1).toNat * 6)) = some (.int .i64 ((rd_T41 l0 x4_1).f0)) ∧ w'.cell? ⟨(ad140.add ((x4_1).toNat * 6)).block, (ad140.add ((x4_1).toNat * 6)).off + 1, none⟩ = some (.int .i64 ((rd_T41 l0 x4_1).f1)) ∧ w'.cell? ⟨(ad140.add ((x4_1).toNat * 6)).block, (ad140.add ((x4_1).toNat * 6)).off + 2, none⟩ = some (.int .i64 ((rd_T41 l0 x4_1).f2.f0)) ∧ w'.cell? ⟨(ad140.add ((x4_1).toNat * 6)).block, (ad140.add ((x4_1).toNat * 6)).off + 3, none⟩ = some (.int .i64 ((rd_T41 l0 x4_1).f2.f1)) ∧ w'.cell? ⟨(ad140.add ((x4_1).toNat * 6)).block, (ad140.add ((x4_1).toNat * 6)).off + 4, none⟩ = some (.int .i64 ((rd_T41 l0 x4_1).f2.f2)) ∧ w'.cell? ⟨(ad140.add ((x4_1).toNat * 6)).block, (ad140.add ((x4_1).toNat * 6)).off + 5, none⟩ = some (.slice A141_5 ((rd_T41 l0 x4_1).f3).length c141_5)) (ds := [10]) (bz 11 0) (by kernel_rfl) rfl (by kernel_rfl) ⟨(blk_cell BK139.out 0).trans rfl, (blk_cell BK139.out 1).trans rfl, (blk_cell BK139.out 2).trans rfl, ((HB.out.cell (World.block_lt_of_cell? w _ hw141_0)).trans hw141_0), ((HB.out.cell (World.block_lt_of_cell? w _ hw141_1)).trans hw141_1), ((HB.out.cell (World.block_lt_of_cell? w _ hw141_2)).trans hw141_2), ((HB.out.cell (World.block_lt_of_cell? w _ hw141_3)).trans hw141_3), ((HB.out.cell (World.block_lt_of_cell? w _ hw141_4)).trans hw141_4), ((HB.out.cell (World.block_lt_of_cell? w _ hw141_5)).trans hw141_5)⟩ (fun hHeld => ?_); refine with_tabW spec_l19Sum.tab6 spec_l19Sum.bits6 (fun HT_ HW_ => ?_)
          generalize w10.drew = w11 at BK138 BK139 HB HR141_5 hx141_0 hx141_1 hx141_2 hx141_3 hx141_4 hx141_5 hHeld ⊢
          refine px_ (i := 0) (N := some 22) (bz 11 1) (any_of HT_.out (by kernel_rfl)) ?_
          refine px_ (i := 2) (N := some 24) (bz 11 5) (any_of HT_.out (by kernel_rfl)) ?_
          refine px_ (i := 3) (N := some 25) (bz 11 13) (any_of HT_.out (by kernel_rfl)) ?_
          refine px_ (i := 4) (N := some 26) (bz 11 29) (any_of HT_.out (by kernel_rfl)) ?_
          refine px_ (i := 5) (N := some 27) (bz 11 61) (any_of HT_.out (by kernel_rfl)) ?_
          refine px_ (i := 6) (N := some 28) (bz 11 125) (any_of HT_.out (by kernel_rfl)) ?_
          refine tx_ (i := 1) (N := some 23) (bz 11 127) rfl rfl (take_ofW HT_.out HW_.out (by kernel_rfl)) hHeld (by rintro w' ⟨s0, s1, s2, s3, s4, s5, s6, s7, s8⟩; go_simp; with_reducible rfl) ?_
          refine tx_ (i := 7) (N := some 29) (bz 11 255) rfl rfl (take_ofW HT_.out HW_.out (by kernel_rfl)) hHeld (by rintro w' ⟨s0, s1, s2, s3, s4, s5, s6, s7, s8⟩; go_simp; with_reducible rfl) ?_
          refine px_ (i := 8) (N := some 30) (bz 11 511) (any_of HT_.out (by kernel_rfl)) ?_
          refine px_ (i := 9) (N := some 31) (bz 11 1023) (any_of HT_.out (by kernel_rfl)) ?_
          refine last_ (i := 10) (N := none) (bz 11 2047) rfl rfl (one_of HT_.out (by kernel_rfl)) (by decide) (fun K hK => ?_)
          have hs12 : w11.cell? ⟨gb139, 1, none⟩ = some (.int .i64 x140001_1) := (blk_cell BK139.out 1).trans rfl
          have hfs12 := blk_frozen BK139.out 1
          have hns12_0 := NB138_139.out
          have hms12_0 := NB139_138.out
          refine skip_ (w1 := ?_) (by rfl) rfl ?_ ?_
          rotate_left
          · go_simp
            rfl
          refine hK.out _ _ ?_
          clear hK K
          refine done_ (done_of HT_.out (by kernel_rfl)) ?_
          try go_wp2
          have n0_ : Aside0 ((w11.setCell ⟨gb139, 1, none⟩ (.int .i64 (wrap64 (x140001_1 + ((rd_T41 l0 x4_1).f2.f1))))).heap[gb138]? = some (.cells #[.int .i64 0, .int .i64 0, .int .i64 0] 39 (0, 0))) := ⟨by (with_reducible repeat (first | refine blk_drewN ?_ _ | refine blk_drew ?_ | refine blk_alloc ?_ _)); refine blk_far ?_ NB138_139.out _; (with_reducible repeat (first | refine blk_drewN ?_ _ | refine blk_drew ?_ | refine blk_alloc ?_ _)); exact BK138.out⟩
          have n1_ : Aside0 ((w11.setCell ⟨gb139, 1, none⟩ (.int .i64 (wrap64 (x140001_1 + ((rd_T41 l0 x4_1).f2.f1))))).heap[gb139]? = some (.cells #[.int .i64 (wrap64 (x140000_1 + ((rd_T41 l0 x4_1).f2.f0))), .int .i64 (wrap64 (x140001_1 + ((rd_T41 l0 x4_1).f2.f1))), .int .i64 x140002_1] 39 (0, 0))) := ⟨by (with_reducible repeat (first | refine blk_drewN ?_ _ | refine blk_drew ?_ | refine blk_alloc ?_ _)); refine blk_put (cs := #[.int .i64 (wrap64 (x140000_1 + ((rd_T41 l0 x4_1).f2.f0))), .int .i64 x140001_1, .int .i64 x140002_1]) ?_ 1 _ rfl; (with_reducible repeat (first | refine blk_drewN ?_ _ | refine blk_drew ?_ | refine blk_alloc ?_ _)); exact BK139.out⟩
          have n2_ : Aside0 (Below w.heap.size w (w11.setCell ⟨gb139, 1, none⟩ (.int .i64 (wrap64 (x140001_1 + ((rd_T41 l0 x4_1).f2.f1)))))) := ⟨by repeat (first | (with_reducible first | exact HB.out | apply below_alloc | apply pw_below_drewN | apply below_drew1 | refine below_set ?_ GE138.out | refine below_set ?_ GE139.out) | exact HB.out)⟩
          (try clear BK138)
          (try clear BK139)
          (try clear HB)
          generalize (w11.setCell ⟨gb139, 1, none⟩ (.int .i64 (wrap64 (x140001_1 + ((rd_T41 l0 x4_1).f2.f1))))) = w13 at n0_ n1_ n2_ ⊢
          have BK138 := n0_
          have BK139 := n1_
          have HB := n2_
          clear n0_ n1_ n2_
          have n0_ := Aside0.mk (blk_drew BK138.out)
          have n1_ := Aside0.mk (blk_drew BK139.out)
          have n2_ := Aside0.mk (below_drew1 HB.out)
          clear BK138
          clear BK139
          clear HB
          have BK138 := n0_
          have BK139 := n1_
          have HB := n2_
          clear n0_ n1_ n2_
          have p142 : 0 ≤ (x4_1 : Int) := of_decide_eq_true (by first | (with_reducible assumption) | assumption)
          have q142 : x4_1 < (l0.length : Int) := of_decide_eq_true (by first | (with_reducible assumption) | assumption)
          obtain ⟨ad142, A142_5, c142_5, e142, hx142_0, hx142_1, hx142_2, hx142_3, hx142_4, hx142_5, hl142_5, hi142_5⟩ := at_T41 HR0.out x4_1 p142 q142
          have hw142_5 := hx142_5
          have hw142_4 := hx142_4
          have hw142_3 := hx142_3
          have hw142_2 := hx142_2
          have hw142_1 := hx142_1
          have hw142_0 := hx142_0
          obtain rfl : ad140 = ad142 := (by injection e142)
          replace hx142_0 := (HB.out.cell (World.block_lt_of_cell? w _ hx142_0)).trans hx142_0
          replace hx142_1 := (HB.out.cell (World.block_lt_of_cell? w _ hx142_1)).trans hx142_1
          replace hx142_2 := (HB.out.cell (World.block_lt_of_cell? w _ hx142_2)).trans hx142_2
          replace hx142_3 := (HB.out.cell (World.block_lt_of_cell? w _ hx142_3)).trans hx142_3
          replace hx142_4 := (HB.out.cell (World.block_lt_of_cell? w _ hx142_4)).trans hx142_4
          replace hx142_5 := (HB.out.cell (World.block_lt_of_cell? w _ hx142_5)).trans hx142_5
          have HR142_5 := Aside0.mk hi142_5
          have HC142_5 := Aside0.mk hl142_5
          clear hi142_5 hl142_5
          replace p142 := eq_true p142
          replace q142 := eq_true q142
          refine start_ (n := 11) (S := fun w' => w'.cell? ⟨gb139, 0, none⟩ = some (.int .i64 (wrap64 (x140000_1 + ((rd_T41 l0 x4_1).f2.f0)))) ∧ w'.cell? ⟨gb139, 1, none⟩ = some (.int .i64 (wrap64 (x140001_1 + ((rd_T41 l0 x4_1).f2.f1)))) ∧ w'.cell? ⟨gb139, 2, none⟩ = some (.int .i64 x140002_1) ∧ w'.cell? (ad140.add ((x4_1).toNat * 6)) = some (.int .i64 ((rd_T41 l0 x4_1).f0)) ∧ w'.cell? ⟨(ad140.add ((x4_1).toNat * 6)).block, (ad140.add ((x4_1).toNat * 6)).off + 1, none⟩ = some (.int .i64 ((rd_T41 l0 x4_1).f1)) ∧ w'.cell? ⟨(ad140.add ((x4_1).toNat * 6)).block, (ad140.add ((x4_1).toNat * 6)).off + 2, none⟩ = some (.int .i64 ((rd_T41 l0 x4_1).f2.f0)) ∧ w'.cell? ⟨(ad140.add ((x4_1).toNat * 6)).block, (ad140.add ((x4_1).toNat * 6)).off + 3, none⟩ = some (.int .i64 ((rd_T41 l0 x4_1).f2.f1)) ∧ w'.cell? ⟨(ad140.add ((x4_1).toNat * 6)).block, (ad140.add ((x4_1).toNat * 6)).off + 4, none⟩ = some (.int .i64 ((rd_T41 l0 x4_1).f2.f2)) ∧ w'.cell? ⟨(ad140.add ((x4_1).toNat * 6)).block, (ad140.add ((x4_1).toNat * 6)).off + 5, none⟩ = some (.slice A142_5 ((rd_T41 l0 x4_1).f3).length c142_5)) (ds := [10]) (bz 11 0) (by kernel_rfl) rfl (by kernel_rfl) ⟨(blk_cell BK139.out 0).trans rfl, (blk_cell BK139.out 1).trans rfl, (blk_cell BK139.out 2).trans rfl, ((HB.out.cell (World.block_lt_of_cell? w _ hw142_0)).trans hw142_0), ((HB.out.cell (World.block_lt_of_cell? w _ hw142_1)).trans hw142_1), ((HB.out.cell (World.block_lt_of_cell? w _ hw142_2)).trans hw142_2), ((HB.out.cell (World.block_lt_of_cell? w _ hw142_3)).trans hw142_3), ((HB.out.cell (World.block_lt_of_cell? w _ hw142_4)).trans hw142_4), ((HB.out.cell (World.block_lt_of_cell? w _ hw142_5)).trans hw142_5)⟩ (fun hHeld => ?_); refine with_tabW spec_l19Sum.tab7 spec_l19Sum.bits7 (fun HT_ HW_ => ?_)
          generalize w13.drew = w14 at BK138 BK139 HB HR142_5 hx142_0 hx142_1 hx142_2 hx142_3 hx142_4 hx142_5 hHeld ⊢
          refine px_ (i := 0) (N := some 32) (bz 11 1) (any_of HT_.out (by kernel_rfl)) ?_
          refine px_ (i := 2) (N := some 34) (bz 11 5) (any_of HT_.out (by kernel_rfl)) ?_
          refine px_ (i := 3) (N := some 35) (bz 11 13) (any_of HT_.out (by kernel_rfl)) ?_
          refine px_ (i := 4) (N := some 36) (bz 11 29) (any_of HT_.out (by kernel_rfl)) ?_
          refine px_ (i := 5) (N := some 37) (bz 11 61) (any_of HT_.out (by kernel_rfl)) ?_
          refine px_ (i := 6) (N := some 38) (bz 11 125) (any_of HT_.out (by kernel_rfl)) ?_
          refine tx_ (i := 1) (N := some 33) (bz 11 127) rfl rfl (take_ofW HT_.out HW_.out (by kernel_rfl)) hHeld (by rintro w' ⟨s0, s1, s2, s3, s4, s5, s6, s7, s8⟩; go_simp; with_reducible rfl) ?_
          refine tx_ (i := 7) (N := some 39) (bz 11 255) rfl rfl (take_ofW HT_.out HW_.out (by kernel_rfl)) hHeld (by rintro w' ⟨s0, s1, s2, s3, s4, s5, s6, s7, s8⟩; go_simp; with_reducible rfl) ?_
          refine px_ (i := 8) (N := some 40) (bz 11 511) (any_of HT_.out (by kernel_rfl)) ?_
          refine px_ (i := 9) (N := some 41) (bz 11 1023) (any_of HT_.out (by kernel_rfl)) ?_
          refine last_ (i := 10) (N := none) (bz 11 2047) rfl rfl (one_of HT_.out (by kernel_rfl)) (by decide) (fun K hK => ?_)
          have hs15 : w14.cell? ⟨gb139, 2, none⟩ = some (.int .i64 x140002_1) := (blk_cell BK139.out 2).trans rfl
          have hfs15 := blk_frozen BK139.out 2
          have hns15_0 := NB138_139.out
          have hms15_0 := NB139_138.out
          refine skip_ (w1 := ?_) (by rfl) rfl ?_ ?_
          rotate_left
          · go_simp
            rfl
          refine hK.out _ _ ?_
          clear hK K
          refine done_ (done_of HT_.out (by kernel_rfl)) ?_
          try go_wp2
          go_roundg k1
          case measure => have := HK1.out; omega
          case rel => exact ⟨(wrap64 (x4_1 + 1)), (wrap64 (x140000_1 + ((rd_T41 l0 x4_1).f2.f0))), (wrap64 (x140001_1 + ((rd_T41 l0 x4_1).f2.f1))), (wrap64 (x140002_1 + ((rd_T41 l0 x4_1).f2.f2))), (by first | rfl | (simp; done) | (simp [*]; done)), H', ⟨by have := HK1.out; omega⟩, ⟨by (with_reducible repeat (first | refine blk_drewN ?_ _ | refine blk_drew ?_ | refine blk_alloc ?_ _)); refine blk_far ?_ NB138_139.out _; (with_reducible repeat (first | refine blk_drewN ?_ _ | refine blk_drew ?_ | refine blk_alloc ?_ _)); exact BK138.out⟩, ⟨by (with_reducible repeat (first | refine blk_drewN ?_ _ | refine blk_drew ?_ | refine blk_alloc ?_ _)); refine blk_put (cs := #[.int .i64 (wrap64 (x140000_1 + ((rd_T41 l0 x4_1).f2.f0))), .int .i64 (wrap64 (x140001_1 + ((rd_T41 l0 x4_1).f2.f1))), .int .i64 x140002_1]) ?_ 2 _ rfl; (with_reducible repeat (first | refine blk_drewN ?_ _ | refine blk_drew ?_ | refine blk_alloc ?_ _)); exact BK139.out⟩, ⟨by repeat (first | (with_reducible first | exact HB.out | apply below_alloc | apply pw_below_drewN | apply below_drew1 | refine below_set ?_ GE138.out | refine below_set ?_ GE139.out) | exact HB.out)⟩⟩
        · rw [if_neg c7] at H
          exact absurd H (by simp)
      · rw [if_neg c6] at H
        have c6b0 : decide (x4_1 < (l0.length : Int)) = false := decide_eq_false c6
        clear c6
        simp only [Option.some.injEq, Prod.mk.injEq] at H
        obtain ⟨rfl, rfl, rfl⟩ := H
        (try have hnb16 := NB139_138.out)
        (try have hnc16 := NB138_139.out)
        have hcz17_0 : wr.cell? ⟨gb139, 0, none⟩ = some (.int .i64 x140000_1) := (blk_cell BK139.out 0).trans rfl
        have hcz17_1 : wr.cell? ⟨gb139, 1, none⟩ = some (.int .i64 x140001_1) := (blk_cell BK139.out 1).trans rfl
        have hcz17_2 : wr.cell? ⟨gb139, 2, none⟩ = some (.int .i64 x140002_1) := (blk_cell BK139.out 2).trans rfl
        have hfz17_0 := blk_frozen BK139.out 0
        have hfz17_1 := blk_frozen BK139.out 1
        have hfz17_2 := blk_frozen BK139.out 2
        have hcz18_0 : wr.cell? ⟨gb138, 0, none⟩ = some (.int .i64 0) := (blk_cell BK138.out 0).trans rfl
        have hcz18_1 : wr.cell? ⟨gb138, 1, none⟩ = some (.int .i64 0) := (blk_cell BK138.out 1).trans rfl
        have hcz18_2 : wr.cell? ⟨gb138, 2, none⟩ = some (.int .i64 0) := (blk_cell BK138.out 2).trans rfl
        have hfz18_0 := blk_frozen BK138.out 0
        have hfz18_1 := blk_frozen BK138.out 1
        have hfz18_2 := blk_frozen BK138.out 2
        go_wp2
        refine bodyPost_ret (results_cell_row rfl _ _ gb138 39 #[.int .i64 x140000_1, .int .i64 x140001_1, .int .i64 x140002_1] (0, 0) _ rfl (by (with_reducible repeat (first | refine blk_drewN ?_ _ | refine blk_drew ?_ | refine blk_alloc ?_ _)); refine blk_put (cs := #[.int .i64 x140000_1, .int .i64 x140001_1, .int .i64 0]) ?_ 2 _ rfl; (with_reducible repeat (first | refine blk_drewN ?_ _ | refine blk_drew ?_ | refine blk_alloc ?_ _)); refine blk_put (cs := #[.int .i64 x140000_1, .int .i64 0, .int .i64 0]) ?_ 1 _ rfl; (with_reducible repeat (first | refine blk_drewN ?_ _ | refine blk_drew ?_ | refine blk_alloc ?_ _)); refine blk_put (cs := #[.int .i64 0, .int .i64 0, .int .i64 0]) ?_ 0 _ rfl; (with_reducible repeat (first | refine blk_drewN ?_ _ | refine blk_drew ?_ | refine blk_alloc ?_ _)); exact BK138.out) Try.underlying39 rfl (by kernel_rfl)) rfl ?_
        exact ⟨by first | rfl | (simp [errW_none, errW_some] <;> rfl) | (simp [*, errW_none, errW_some] <;> rfl), by repeat (first | (with_reducible first | exact HB.out | apply below_alloc | apply pw_below_drewN | apply below_drew1 | refine below_set ?_ GE138.out | refine below_set ?_ GE139.out) | exact HB.out)⟩

end Go.Proofs.Ytecabogkenabnaa.PFnExactWorstSpan
