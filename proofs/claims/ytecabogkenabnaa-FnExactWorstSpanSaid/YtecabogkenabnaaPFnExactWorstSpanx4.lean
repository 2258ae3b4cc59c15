-- by a program of this session's, over the kit's words
import Derived.Test.YtecabogkenabnaaPFnExactWorstSpanx0
import Derived.Test.YtecabogkenabnaaPFnExactWorstSpanx1
import Derived.Test.YtecabogkenabnaaPFnExactWorstSpanx2
import Derived.Test.YtecabogkenabnaaPFnExactWorstSpanx3
namespace Go.Proofs.Ytecabogkenabnaa.PFnExactWorstSpan
open Go.RowKit Go.Proofs.YtecabogkenabnaaW.PrintWords Go.Proofs.YtecabogkenabnaaW.PrintLast Go.Proofs.YtecabogkenabnaaW.PrintMore Go.Proofs.YtecabogkenabnaaV
attribute [local go_sem] max2_int min2_int max_two min_two max_three min_three max_four min_four   -- for this text's walks alone
set_option linter.unusedVariables false
set_option linter.unusedSimpArgs false

/-! ### spec_l19Gap: function 13 -/
mutual
def spec_l19Gap.j0 : Nat → List (S41) → List (S41) → Bool → Option (Int)
  | 0, _, _, _ => none
  | k + 1, x0, x1, x18 => if x18 = true then (some (-1)) else ((spec_l19Mains.f k x0).bind fun t145 => ((spec_l19Mains.f k x1).bind fun t148 => (spec_l19Gap.l0 k x0 x1 t145 t148 (-1) 0)))
def spec_l19Gap.l0 : Nat → List (S41) → List (S41) → List Int → List Int → Int → Int → Option (Int)
  | 0, _, _, _, _, _, _ => none
  | k + 1, x0, x1, x5, x6, x7, x8 => if x8 < (x5.length : Int) then (spec_l19Gap.l1 k x0 x1 x5 x6 x7 x8 0) else (some x7)
def spec_l19Gap.l1 : Nat → List (S41) → List (S41) → List Int → List Int → Int → Int → Int → Option (Int)
  | 0, _, _, _, _, _, _, _ => none
  | k + 1, x0, x1, x5, x6, x7, x8, x9 => if x9 < (x6.length : Int) then (if 0 < (x0.length : Int) then ((spec_Stride.f ((rd_T41 x0 0).f1)).bind fun t152 => ((spec_l19Sum.f k x0).bind fun bt153 => ((spec_l13List.f bt153.1 bt153.2.1 bt153.2.2).bind fun t156 => (if 0 ≤ x8 then (if x8 < (x5.length : Int) then (if 0 ≤ (rd x5 x8) then (if (rd x5 x8) < (t156.length : Int) then (if 0 < (x1.length : Int) then ((spec_Stride.f ((rd_T41 x1 0).f1)).bind fun t162 => ((spec_l19Sum.f k x1).bind fun bt163 => ((spec_l13List.f bt163.1 bt163.2.1 bt163.2.2).bind fun t166 => (if 0 ≤ x9 then (if 0 ≤ (rd x6 x9) then (if (rd x6 x9) < (t166.length : Int) then (spec_l19Gap.l1 k x0 x1 x5 x6 (mx (mx x7 (wrap64 ((wrap64 (t152 * (rd t156 (rd x5 x8)))) - (wrap64 (t162 * (rd t166 (rd x6 x9))))))) (wrap64 (-(wrap64 ((wrap64 (t152 * (rd t156 (rd x5 x8)))) - (wrap64 (t162 * (rd t166 (rd x6 x9))))))))) x8 (wrap64 (x9 + 1))) else (none)) else (none)) else (none))))) else (none)) else (none)) else (none)) else (none)) else (none))))) else (none)) else (spec_l19Gap.l0 k x0 x1 x5 x6 x7 (wrap64 (x8 + 1)))
end
def spec_l19Gap.f (k : Nat) (l0 : List (S41)) (l1 : List (S41)) : Option (Int) := (spec_l19One.f k l0).bind fun t143 => (if t143 = true then ((spec_l19One.f k l1).bind fun t144 => (spec_l19Gap.j0 k l0 l1 (!t144))) else (spec_l19Gap.j0 k l0 l1 true))
def spec_l19Gap.T12 : Bool × List (List Nat × List Nat) := (true, [([], []), ([0], [0]), ([1], [1]), ([2], [2]), ([3], [3]), ([], []), ([5, 4], [5]), ([6, 6], [6]), ([], []), ([], []), ([8, 9], [8, 9]), ([10], [10]), ([7, 11], [7, 11]), ([12], [12]), ([4, 13], [4, 13]), ([], []), ([15], [15]), ([16], [16]), ([17], [17]), ([18, 7], [18]), ([], []), ([20, 19], [20]), ([21, 21], [21]), ([], []), ([], []), ([23, 24], [23, 24]), ([25], [25]), ([22, 26], [22, 26]), ([27], [27]), ([19, 28], [19, 28]), ([14, 29], [14, 29]), ([30, 22, 0, 1, 2, 3, 4, 5, 6, 7, 8, 9, 10, 11, 12, 13, 14, 15, 16, 17, 18, 19, 20, 21, 22, 23, 24, 25, 26, 27, 28, 29, 30], [30])])
def spec_l19Gap.B12 : List Nat := [0, 1, 3, 7, 15, 0, 63, 127, 0, 0, 768, 1792, 4095, 8191, 16383, 0, 32768, 98304, 229376, 491775, 0, 2064639, 4161791, 0, 0, 25165824, 58720256, 134185215, 268402943, 536838399, 1073741823, 2147483647]
theorem spec_l19Gap.tab12 : rtab .any (opsOf Try.f13 12) = spec_l19Gap.T12 := by kernel_rfl
theorem spec_l19Gap.bits12 : waitsOk spec_l19Gap.T12.2 spec_l19Gap.B12 = true := by kernel_rfl
set_option maxHeartbeats 8000000 in
set_option maxRecDepth 100000 in
theorem spec_l19Gap.calls (k : Nat) (A0 : Option Addr) (c0 : Nat) (l0 : List (S41)) (A1 : Option Addr) (c1 : Nat) (l1 : List (S41)) (r : Int) (w : World) (hr0 : Kd.C k41 w A0 l0.length l0) (hc0 : l0.length ≤ c0) (hr1 : Kd.C k41 w A1 l1.length l1) (hc1 : l1.length ≤ c1) (h : spec_l19Gap.f k l0 l1 = some r) :
    Calls Try.prog 13 #[.slice A0 l0.length c0, .slice A1 l1.length c1] w fun e w' => e = .returned (.int .i64 r) ∧ Below w.heap.size w w' := by
  have HR0 := Aside0.mk hr0
  have HC0 := Aside0.mk hc0
  clear hr0 hc0
  have HR1 := Aside0.mk hr1
  have HC1 := Aside0.mk hc1
  clear hr1 hc1
  have HB := Aside0.mk (Below.refl w.heap.size w)
  have H : ((spec_l19One.f k l0).bind fun t143 => (if t143 = true then ((spec_l19One.f k l1).bind fun t144 => (spec_l19Gap.j0 k l0 l1 (!t144))) else (spec_l19Gap.j0 k l0 l1 true))) = some r := h
  clear h
  have HC3 := Aside0.mk H
  clear H
  go_enter Try.func13, Try.ntmps13
  go_upto_region 1 with (fail)
  go_cut [18] (fun v18 wc => ∃ (kq : Nat) (x18_2 : Bool), v18 = .bool x18_2 ∧ Aside0 (spec_l19Gap.j0 kq l0 l1 x18_2 = some r) ∧ Aside0 (kq ≤ k) ∧ Aside0 (Below w.heap.size w wc))
  case first =>
    have H := HC3.out
    clear HC3
    obtain ⟨t143, A40, H⟩ := Option.bind_eq_some_iff.mp H
    (try dsimp only at H)
    have A4 := Aside0.mk A40
    clear A40
    by_cases c5 : t143 = true
    · subst c5
      rw [if_pos rfl] at H
      obtain ⟨t144, A60, H⟩ := Option.bind_eq_some_iff.mp H
      (try dsimp only at H)
      have A6 := Aside0.mk A60
      clear A60
      have H' := Aside0.mk H
      clear H
      go_wp2_with (first | ((with_reducible refine gate_callee (f := 22) rfl ?_); refine goesL_ (some 12) rfl rfl Try.func22 (by kernel_rfl) rfl #[.slice A0 l0.length c0] rfl (by (try simp only [List.map_toArray, List.map_cons, List.map_nil]); first | done | rfl | (simp only [List.length_drop, List.length_take]; rfl)) ?_; (with_reducible refine (spec_l19One.calls k _ _ l0 true _ ?side1 ?side2 A4.out).mono ?_); (case side1 => repeat (first | exact (Kd.C_below HR0.out HB.out) | (with_reducible refine Kd.C_alloc ?_ _) | (with_reducible refine Kd.C_drewN ?_ _) | (with_reducible refine Kd.C_drew ?_))); (case side2 => exact HC0.out); rintro e w' ⟨rfl, ⟨nd, rfl⟩⟩; refine ⟨_, rfl, ?_⟩) | (go_at_call 22; (with_reducible refine (spec_l19One.calls k _ _ l1 t144 _ ?side1 ?side2 A6.out).mono ?_); (case side1 => repeat (first | exact (Kd.C_below HR1.out (by repeat (first | (with_reducible first | exact HB.out | apply below_alloc | apply pw_below_drewN | apply below_drew1) | exact HB.out))) | (with_reducible refine Kd.C_alloc ?_ _) | (with_reducible refine Kd.C_drewN ?_ _) | (with_reducible refine Kd.C_drew ?_))); (case side2 => exact HC1.out); rintro e w' ⟨rfl, ⟨nd, rfl⟩⟩))
      go_meet
      case rel => exact ⟨_, (!t144), (by first | rfl | (simp; done) | (simp [*]; done)), H', ⟨by first | omega | exact Nat.le_refl _⟩, ⟨by repeat (first | (with_reducible first | exact HB.out | apply below_alloc | apply pw_below_drewN | apply below_drew1) | exact HB.out)⟩⟩
    · replace c5 := Bool.eq_false_iff.mpr c5
      subst c5
      rw [if_neg (show ¬ (false = true) by decide)] at H
      have H' := Aside0.mk H
      clear H
      go_wp2_with (first | ((with_reducible refine gate_callee (f := 22) rfl ?_); refine goesL_ (some 12) rfl rfl Try.func22 (by kernel_rfl) rfl #[.slice A0 l0.length c0] rfl (by (try simp only [List.map_toArray, List.map_cons, List.map_nil]); first | done | rfl | (simp only [List.length_drop, List.length_take]; rfl)) ?_; (with_reducible refine (spec_l19One.calls k _ _ l0 false _ ?side1 ?side2 A4.out).mono ?_); (case side1 => repeat (first | exact (Kd.C_below HR0.out HB.out) | (with_reducible refine Kd.C_alloc ?_ _) | (with_reducible refine Kd.C_drewN ?_ _) | (with_reducible refine Kd.C_drew ?_))); (case side2 => exact HC0.out); rintro e w' ⟨rfl, ⟨nd, rfl⟩⟩; refine ⟨_, rfl, ?_⟩))
      go_meet
      case rel => exact ⟨_, (true), (by first | rfl | (simp; done) | (simp [*]; done)), H', ⟨by first | omega | exact Nat.le_refl _⟩, ⟨by repeat (first | (with_reducible first | exact HB.out | apply below_alloc | apply pw_below_drewN | apply below_drew1) | exact HB.out)⟩⟩
  case rest =>
    clear HC3
    try clear c1
    try clear c2
    try clear p2
    try clear c5
    obtain ⟨kq, x18_2, rfl, HA, HJ2, HB⟩ := hcut
    cases kq with
    | zero => exact absurd HA.out (by simp [spec_l19Gap.j0])
    | succ kj2 =>
      have H := HA.out
      clear HA
      simp only [spec_l19Gap.j0] at H
      by_cases c7 : x18_2 = true
      · subst c7
        rw [if_pos rfl] at H
        obtain rfl := Option.some.inj H
        go_wp2
        go_ret
        exact ⟨by first | rfl | (simp [errW_none, errW_some] <;> rfl) | (simp [*, errW_none, errW_some] <;> rfl), by repeat (first | (with_reducible first | exact HB.out | apply below_alloc | apply pw_below_drewN | apply below_drew1) | exact HB.out)⟩
      · replace c7 := Bool.eq_false_iff.mpr c7
        subst c7
        rw [if_neg (show ¬ (false = true) by decide)] at H
        obtain ⟨t145, A80, H⟩ := Option.bind_eq_some_iff.mp H
        (try dsimp only at H)
        have A8 := Aside0.mk A80
        clear A80
        obtain ⟨t148, A90, H⟩ := Option.bind_eq_some_iff.mp H
        (try dsimp only at H)
        have A9 := Aside0.mk A90
        clear A90
        have H' := Aside0.mk H
        clear H
        go_wp2_with (first | ((with_reducible refine gate_callee (f := 23) rfl ?_); refine goesL_ (some 20) rfl rfl Try.func23 (by kernel_rfl) rfl #[.slice A0 l0.length c0] rfl (by (try simp only [List.map_toArray, List.map_cons, List.map_nil]); first | done | rfl | (simp only [List.length_drop, List.length_take]; rfl)) ?_; (with_reducible refine (spec_l19Mains.calls kj2 _ _ l0 t145 _ ?side1 ?side2 A8.out).mono ?_); (case side1 => repeat (first | exact (Kd.C_below HR0.out HB.out) | (with_reducible refine Kd.C_alloc ?_ _) | (with_reducible refine Kd.C_drewN ?_ _) | (with_reducible refine Kd.C_drew ?_))); (case side2 => exact HC0.out); rintro e w10 ⟨v146, rfl, ho0, hb⟩; refine ⟨_, rfl, ?_⟩; have n0_ := Aside0.mk (Kd.R_lower ho0 (below_size (by repeat (first | (with_reducible first | exact HB.out | apply below_alloc | apply pw_below_drewN | apply below_drew1) | exact HB.out)))); have n1_ := Aside0.mk (below_step (by repeat (first | (with_reducible first | exact HB.out | apply below_alloc | apply pw_below_drewN | apply below_drew1) | exact HB.out)) hb); clear HB; have HO147 := n0_; have HB := n1_; clear n0_ n1_; (try clear hb); (try clear hb2); (try clear hk); (try clear hi); (try clear ho0)) | ((with_reducible refine gate_callee (f := 23) rfl ?_); refine goesL_ (some 22) rfl rfl Try.func23 (by kernel_rfl) rfl #[.slice A1 l1.length c1] rfl (by (try simp only [List.map_toArray, List.map_cons, List.map_nil]); first | done | rfl | (simp only [List.length_drop, List.length_take]; rfl)) ?_; (with_reducible refine (spec_l19Mains.calls kj2 _ _ l1 t148 _ ?side1 ?side2 A9.out).mono ?_); (case side1 => repeat (first | exact (Kd.C_below HR1.out HB.out) | (with_reducible refine Kd.C_alloc ?_ _) | (with_reducible refine Kd.C_drewN ?_ _) | (with_reducible refine Kd.C_drew ?_))); (case side2 => exact HC1.out); rintro e w11 ⟨v149, rfl, ho0, hb⟩; refine ⟨_, rfl, ?_⟩; have n0_ := Aside0.mk (Kd.R_elder' (by (with_reducible repeat (first | apply Kd.R_alloc | apply Kd.R_drewN | apply Kd.R_drew)); exact HO147.out) (Kd.R_base ho0) hb); have n1_ := Aside0.mk (Kd.R_lower (Kd.R_new' ho0 (Kd.R_lt (by (with_reducible repeat (first | apply Kd.R_alloc | apply Kd.R_drewN | apply Kd.R_drew)); exact HO147.out))) (below_size (by repeat (first | (with_reducible first | exact HB.out | apply below_alloc | apply pw_below_drewN | apply below_drew1) | exact HB.out)))); have n2_ := Aside0.mk (below_step (by repeat (first | (with_reducible first | exact HB.out | apply below_alloc | apply pw_below_drewN | apply below_drew1) | exact HB.out)) hb); clear HO147; clear HB; have HO147 := n0_; have HO150 := n1_; have HB := n2_; clear n0_ n1_ n2_; (try clear hb); (try clear hb2); (try clear hk); (try clear hi); (try clear ho0)))
        go_loopg [7, 8] kj2 (fun kq v7 v8 w' => ∃ (x7_2 : Int) (x8_2 : Int), v7 = .int .i64 x7_2 ∧ v8 = .int .i64 x8_2 ∧ Aside0 (spec_l19Gap.l0 kq l0 l1 t145 t148 x7_2 x8_2 = some r) ∧ Aside0 (kq ≤ kj2) ∧ Aside0 (Kd.R (Kd.int .i64) 3 w' w.heap.size (fun k_ => some k_ ≠ (v149 : Value).ownBlock) v146 t145) ∧ Aside0 (Kd.R (Kd.int .i64) 3 w' w.heap.size (fun k_ => some k_ ≠ (v146 : Value).ownBlock) v149 t148) ∧ Aside0 (Below w.heap.size w w'))
        case atStart => exact ⟨((-1)), (0), (by first | rfl | (simp; done) | (simp [*]; done)), (by first | rfl | (simp; done) | (simp [*]; done)), H', ⟨Nat.le_refl _⟩, ⟨by (with_reducible repeat (first | apply Kd.R_alloc | apply Kd.R_drewN | apply Kd.R_drew)); exact Kd.R_mono HO147.out (fun _ hk => hk.2)⟩, ⟨by (with_reducible repeat (first | apply Kd.R_alloc | apply Kd.R_drewN | apply Kd.R_drew)); exact Kd.R_mono HO150.out (fun _ hk => hk.2)⟩, ⟨by repeat (first | (with_reducible first | exact HB.out | apply below_alloc | apply pw_below_drewN | apply below_drew1) | exact HB.out)⟩⟩
        case round =>
          clear H'
          try clear c1
          try clear c2
          try clear p2
          try clear c5
          try clear c7
          try clear p2
          obtain ⟨x7_2, x8_2, rfl, rfl, HA, HK2, HO_5, HO_6, HB⟩ := hrel
          cases gk with
          | zero => exact absurd HA.out (by simp [spec_l19Gap.l0])
          | succ k2 =>
            have H := HA.out
            clear HA
            simp only [spec_l19Gap.l0] at H
            by_cases c12 : x8_2 < (t145.length : Int)
            · rw [if_pos c12] at H
              have c12b0 : decide (x8_2 < (t145.length : Int)) = true := decide_eq_true c12
              clear c12
              have H' := Aside0.mk H
              clear H
              obtain ⟨Ao13, co13, eo13⟩ := Kd.R_slice HO_5.out
              subst eo13
              go_wp2
              go_loopg [7, 9] k2 (fun kq v7 v9 w' => ∃ (x7_3 : Int) (x9_3 : Int), v7 = .int .i64 x7_3 ∧ v9 = .int .i64 x9_3 ∧ Aside0 (spec_l19Gap.l1 kq l0 l1 t145 t148 x7_3 x8_2 x9_3 = some r) ∧ Aside0 (kq ≤ k2) ∧ Aside0 (Kd.R (Kd.int .i64) 3 w' w.heap.size (fun k_ => some k_ ≠ (v149 : Value).ownBlock) (.slice Ao13 t145.length co13) t145) ∧ Aside0 (Kd.R (Kd.int .i64) 3 w' w.heap.size (fun k_ => some k_ ≠ ((.slice Ao13 t145.length co13) : Value).ownBlock) v149 t148) ∧ Aside0 (Below w.heap.size w w'))
              case atStart => exact ⟨(x7_2), (0), (by first | rfl | (simp; done) | (simp [*]; done)), (by first | rfl | (simp; done) | (simp [*]; done)), H', ⟨Nat.le_refl _⟩, ⟨by (with_reducible repeat (first | apply Kd.R_alloc | apply Kd.R_drewN | apply Kd.R_drew)); exact HO_5.out⟩, ⟨by (with_reducible repeat (first | apply Kd.R_alloc | apply Kd.R_drewN | apply Kd.R_drew)); exact HO_6.out⟩, ⟨by repeat (first | (with_reducible first | exact HB.out | apply below_alloc | apply pw_below_drewN | apply below_drew1) | exact HB.out)⟩⟩
              case round =>
                clear H'
                try clear c1
                try clear c2
                try clear p2
                try clear c5
                try clear c7
                try clear c12
                try clear c12b0
                try clear c13
                try clear p2
                obtain ⟨x7_3, x9_3, rfl, rfl, HA, HK3, HO_5, HO_6, HB⟩ := hrel
                cases gk with
                | zero => exact absurd HA.out (by simp [spec_l19Gap.l1])
                | succ k3 =>
                  have H := HA.out
                  clear HA
                  simp only [spec_l19Gap.l1] at H
                  by_cases c14 : x9_3 < (t148.length : Int)
                  · rw [if_pos c14] at H
                    have c14b0 : decide (x9_3 < (t148.length : Int)) = true := decide_eq_true c14
                    clear c14
                    by_cases c15 : 0 < (l0.length : Int)
                    · rw [if_pos c15] at H
                      have c15b0 : decide (0 < (l0.length : Int)) = true := decide_eq_true c15
                      have c15b1 : decide (0 < l0.length) = true := decide_eq_true (by omega)
                      clear c15
                      obtain ⟨t152, A160, H⟩ := Option.bind_eq_some_iff.mp H
                      (try dsimp only at H)
                      have A16 := Aside0.mk A160
                      clear A160
                      obtain ⟨⟨t153, t154, t155⟩, A170, H⟩ := Option.bind_eq_some_iff.mp H
                      (try dsimp only at H)
                      have A17 := Aside0.mk A170
                      clear A170
                      obtain ⟨t156, A180, H⟩ := Option.bind_eq_some_iff.mp H
                      (try dsimp only at H)
                      have A18 := Aside0.mk A180
                      clear A180
                      by_cases c19 : 0 ≤ x8_2
                      · rw [if_pos c19] at H
                        have c19b0 : decide (0 ≤ x8_2) = true := decide_eq_true c19
                        clear c19
                        by_cases c20 : x8_2 < (t145.length : Int)
                        · rw [if_pos c20] at H
                          have c20b0 : decide (x8_2 < (t145.length : Int)) = true := decide_eq_true c20
                          clear c20
                          by_cases c21 : 0 ≤ (rd t145 x8_2)
                          · rw [if_pos c21] at H
                            have c21b0 : decide (0 ≤ (rd t145 x8_2)) = true := decide_eq_true c21
                            clear c21
                            by_cases c22 : (rd t145 x8_2) < (t156.length : Int)
                            · rw [if_pos c22] at H
                              have c22b0 : decide ((rd t145 x8_2) < (t156.length : Int)) = true := decide_eq_true c22
                              clear c22
                              by_cases c23 : 0 < (l1.length : Int)
                              · rw [if_pos c23] at H
                                have c23b0 : decide (0 < (l1.length : Int)) = true := decide_eq_true c23
                                have c23b1 : decide (0 < l1.length) = true := decide_eq_true (by omega)
                                clear c23
                                obtain ⟨t162, A240, H⟩ := Option.bind_eq_some_iff.mp H
                                (try dsimp only at H)
                                have A24 := Aside0.mk A240
                                clear A240
                                obtain ⟨⟨t163, t164, t165⟩, A250, H⟩ := Option.bind_eq_some_iff.mp H
                                (try dsimp only at H)
                                have A25 := Aside0.mk A250
                                clear A250
                                obtain ⟨t166, A260, H⟩ := Option.bind_eq_some_iff.mp H
                                (try dsimp only at H)
                                have A26 := Aside0.mk A260
                                clear A260
                                by_cases c27 : 0 ≤ x9_3
                                · rw [if_pos c27] at H
                                  have c27b0 : decide (0 ≤ x9_3) = true := decide_eq_true c27
                                  clear c27
                                  by_cases c28 : 0 ≤ (rd t148 x9_3)
                                  · rw [if_pos c28] at H
                                    have c28b0 : decide (0 ≤ (rd t148 x9_3)) = true := decide_eq_true c28
                                    clear c28
                                    by_cases c29 : (rd t148 x9_3) < (t166.length : Int)
                                    · rw [if_pos c29] at H
                                      have c29b0 : decide ((rd t148 x9_3) < (t166.length : Int)) = true := decide_eq_true c29
                                      clear c29
                                      obtain ⟨ji30, hji30⟩ : ∃ j_ : Int, (mx x7_3 (wrap64 ((wrap64 (t152 * (rd t156 (rd t145 x8_2)))) - (wrap64 (t162 * (rd t166 (rd t148 x9_3))))))) = j_ := ⟨_, rfl⟩
                                      replace H : (spec_l19Gap.l1 k3 l0 l1 t145 t148 (mx (ji30) (wrap64 (-(wrap64 ((wrap64 (t152 * (rd t156 (rd t145 x8_2)))) - (wrap64 (t162 * (rd t166 (rd t148 x9_3))))))))) x8_2 (wrap64 (x9_3 + 1))) = some r := by first | (rw [hji30] at H; exact H) | (simp only [hji30] at H ⊢; exact H)
                                      (try rw [hji30] at A16)
                                      (try rw [hji30] at A17)
                                      (try rw [hji30] at A18)
                                      (try rw [hji30] at A24)
                                      (try rw [hji30] at A25)
                                      (try rw [hji30] at A26)
                                      have hji30_ : (if x7_3 < (wrap64 ((wrap64 (t152 * (rd t156 (rd t145 x8_2)))) - (wrap64 (t162 * (rd t166 (rd t148 x9_3)))))) then (wrap64 ((wrap64 (t152 * (rd t156 (rd t145 x8_2)))) - (wrap64 (t162 * (rd t166 (rd t148 x9_3)))))) else x7_3) = ji30 := hji30
                                      obtain ⟨ji31, hji31⟩ : ∃ j_ : Int, (mx (ji30) (wrap64 (-(wrap64 ((wrap64 (t152 * (rd t156 (rd t145 x8_2)))) - (wrap64 (t162 * (rd t166 (rd t148 x9_3))))))))) = j_ := ⟨_, rfl⟩
                                      replace H : (spec_l19Gap.l1 k3 l0 l1 t145 t148 ji31 x8_2 (wrap64 (x9_3 + 1))) = some r := by first | (rw [hji31] at H; exact H) | (simp only [hji31] at H ⊢; exact H)
                                      (try rw [hji31] at A16)
                                      (try rw [hji31] at A17)
                                      (try rw [hji31] at A18)
                                      (try rw [hji31] at A24)
                                      (try rw [hji31] at A25)
                                      (try rw [hji31] at A26)
                                      have hji31_ : (if (ji30) < (wrap64 (-(wrap64 ((wrap64 (t152 * (rd t156 (rd t145 x8_2)))) - (wrap64 (t162 * (rd t166 (rd t148 x9_3)))))))) then (wrap64 (-(wrap64 ((wrap64 (t152 * (rd t156 (rd t145 x8_2)))) - (wrap64 (t162 * (rd t166 (rd t148 x9_3)))))))) else (ji30)) = ji31 := hji31
                                      have H' := Aside0.mk H
                                      clear H
                                      obtain ⟨Ao32, co32, eo32⟩ := Kd.R_slice HO_6.out
                                      subst eo32
                                      try go_wp2
                                      have n0_ := Aside0.mk (Kd.R_drew HO_5.out)
                                      have n1_ := Aside0.mk (Kd.R_drew HO_6.out)
                                      have n2_ := Aside0.mk (below_drew1 HB.out)
                                      clear HO_5
                                      clear HO_6
                                      clear HB
                                      have HO_5 := n0_
                                      have HO_6 := n1_
                                      have HB := n2_
                                      clear n0_ n1_ n2_
                                      have p151 : 0 ≤ (0 : Int) := (by omega)
                                      have q151 : 0 < (l0.length : Int) := of_decide_eq_true (by first | (with_reducible assumption) | assumption)
                                      obtain ⟨ad151, A151_5, c151_5, e151, hx151_0, hx151_1, hx151_2, hx151_3, hx151_4, hx151_5, hl151_5, hi151_5⟩ := at_T41 HR0.out 0 p151 q151
                                      have hw151_5 := hx151_5
                                      (try rw [show ((0 : Int)).toNat = 0 from rfl] at hw151_5)
                                      (try rw [show 0 * 6 = 0 from rfl] at hw151_5)
                                      (try rw [Addr.add_zero'] at hw151_5)
                                      have hw151_4 := hx151_4
                                      (try rw [show ((0 : Int)).toNat = 0 from rfl] at hw151_4)
                                      (try rw [show 0 * 6 = 0 from rfl] at hw151_4)
                                      (try rw [Addr.add_zero'] at hw151_4)
                                      have hw151_3 := hx151_3
                                      (try rw [show ((0 : Int)).toNat = 0 from rfl] at hw151_3)
                                      (try rw [show 0 * 6 = 0 from rfl] at hw151_3)
                                      (try rw [Addr.add_zero'] at hw151_3)
                                      have hw151_2 := hx151_2
                                      (try rw [show ((0 : Int)).toNat = 0 from rfl] at hw151_2)
                                      (try rw [show 0 * 6 = 0 from rfl] at hw151_2)
                                      (try rw [Addr.add_zero'] at hw151_2)
                                      have hw151_1 := hx151_1
                                      (try rw [show ((0 : Int)).toNat = 0 from rfl] at hw151_1)
                                      (try rw [show 0 * 6 = 0 from rfl] at hw151_1)
                                      (try rw [Addr.add_zero'] at hw151_1)
                                      have hw151_0 := hx151_0
                                      (try rw [show ((0 : Int)).toNat = 0 from rfl] at hw151_0)
                                      (try rw [show 0 * 6 = 0 from rfl] at hw151_0)
                                      (try rw [Addr.add_zero'] at hw151_0)
                                      cases e151
                                      have qi151 : (0 < l0.length) = True := eq_true (by omega)
                                      (try rw [show ((0 : Int)).toNat = 0 from rfl] at hx151_0)
                                      (try rw [show 0 * 6 = 0 from rfl] at hx151_0)
                                      (try rw [Addr.add_zero'] at hx151_0)
                                      (try rw [show ((0 : Int)).toNat = 0 from rfl] at hx151_1)
                                      (try rw [show 0 * 6 = 0 from rfl] at hx151_1)
                                      (try rw [Addr.add_zero'] at hx151_1)
                                      (try rw [show ((0 : Int)).toNat = 0 from rfl] at hx151_2)
                                      (try rw [show 0 * 6 = 0 from rfl] at hx151_2)
                                      (try rw [Addr.add_zero'] at hx151_2)
                                      (try rw [show ((0 : Int)).toNat = 0 from rfl] at hx151_3)
                                      (try rw [show 0 * 6 = 0 from rfl] at hx151_3)
                                      (try rw [Addr.add_zero'] at hx151_3)
                                      (try rw [show ((0 : Int)).toNat = 0 from rfl] at hx151_4)
                                      (try rw [show 0 * 6 = 0 from rfl] at hx151_4)
                                      (try rw [Addr.add_zero'] at hx151_4)
                                      (try rw [show ((0 : Int)).toNat = 0 from rfl] at hx151_5)
                                      (try rw [show 0 * 6 = 0 from rfl] at hx151_5)
                                      (try rw [Addr.add_zero'] at hx151_5)
                                      replace hx151_0 := (HB.out.cell (World.block_lt_of_cell? w _ hx151_0)).trans hx151_0
                                      replace hx151_1 := (HB.out.cell (World.block_lt_of_cell? w _ hx151_1)).trans hx151_1
                                      replace hx151_2 := (HB.out.cell (World.block_lt_of_cell? w _ hx151_2)).trans hx151_2
                                      replace hx151_3 := (HB.out.cell (World.block_lt_of_cell? w _ hx151_3)).trans hx151_3
                                      replace hx151_4 := (HB.out.cell (World.block_lt_of_cell? w _ hx151_4)).trans hx151_4
                                      replace hx151_5 := (HB.out.cell (World.block_lt_of_cell? w _ hx151_5)).trans hx151_5
                                      have HR151_5 := Aside0.mk hi151_5
                                      have HC151_5 := Aside0.mk hl151_5
                                      clear hi151_5 hl151_5
                                      replace p151 := eq_true p151
                                      replace q151 := eq_true q151
                                      have p159 : 0 ≤ (x8_2 : Int) := of_decide_eq_true (by first | (with_reducible assumption) | assumption)
                                      have q159 : x8_2 < (t145.length : Int) := of_decide_eq_true (by first | (with_reducible assumption) | assumption)
                                      obtain ⟨ad159, e159, hx159_0⟩ := Kd.at_int (Kd.R_reads' HO_5.out).2.2 x8_2 p159 q159
                                      cases e159
                                      replace p159 := eq_true p159
                                      replace q159 := eq_true q159
                                      have p161 : 0 ≤ (0 : Int) := (by omega)
                                      have q161 : 0 < (l1.length : Int) := of_decide_eq_true (by first | (with_reducible assumption) | assumption)
                                      obtain ⟨ad161, A161_5, c161_5, e161, hx161_0, hx161_1, hx161_2, hx161_3, hx161_4, hx161_5, hl161_5, hi161_5⟩ := at_T41 HR1.out 0 p161 q161
                                      have hw161_5 := hx161_5
                                      (try rw [show ((0 : Int)).toNat = 0 from rfl] at hw161_5)
                                      (try rw [show 0 * 6 = 0 from rfl] at hw161_5)
                                      (try rw [Addr.add_zero'] at hw161_5)
                                      have hw161_4 := hx161_4
                                      (try rw [show ((0 : Int)).toNat = 0 from rfl] at hw161_4)
                                      (try rw [show 0 * 6 = 0 from rfl] at hw161_4)
                                      (try rw [Addr.add_zero'] at hw161_4)
                                      have hw161_3 := hx161_3
                                      (try rw [show ((0 : Int)).toNat = 0 from rfl] at hw161_3)
                                      (try rw [show 0 * 6 = 0 from rfl] at hw161_3)
                                      (try rw [Addr.add_zero'] at hw161_3)
                                      have hw161_2 := hx161_2
                                      (try rw [show ((0 : Int)).toNat = 0 from rfl] at hw161_2)
                                      (try rw [show 0 * 6 = 0 from rfl] at hw161_2)
                                      (try rw [Addr.add_zero'] at hw161_2)
                                      have hw161_1 := hx161_1
                                      (try rw [show ((0 : Int)).toNat = 0 from rfl] at hw161_1)
                                      (try rw [show 0 * 6 = 0 from rfl] at hw161_1)
                                      (try rw [Addr.add_zero'] at hw161_1)
                                      have hw161_0 := hx161_0
                                      (try rw [show ((0 : Int)).toNat = 0 from rfl] at hw161_0)
                                      (try rw [show 0 * 6 = 0 from rfl] at hw161_0)
                                      (try rw [Addr.add_zero'] at hw161_0)
                                      cases e161
                                      have qi161 : (0 < l1.length) = True := eq_true (by omega)
                                      (try rw [show ((0 : Int)).toNat = 0 from rfl] at hx161_0)
                                      (try rw [show 0 * 6 = 0 from rfl] at hx161_0)
                                      (try rw [Addr.add_zero'] at hx161_0)
                                      (try rw [show ((0 : Int)).toNat = 0 from rfl] at hx161_1)
                                      (try rw [show 0 * 6 = 0 from rfl] at hx161_1)
                                      (try rw [Addr.add_zero'] at hx161_1)
                                      (try rw [show ((0 : Int)).toNat = 0 from rfl] at hx161_2)
                                      (try rw [show 0 * 6 = 0 from rfl] at hx161_2)
                                      (try rw [Addr.add_zero'] at hx161_2)
                                      (try rw [show ((0 : Int)).toNat = 0 from rfl] at hx161_3)
                                      (try rw [show 0 * 6 = 0 from rfl] at hx161_3)
                                      (try rw [Addr.add_zero'] at hx161_3)
                                      (try rw [show ((0 : Int)).toNat = 0 from rfl] at hx161_4)
                                      (try rw [show 0 * 6 = 0 from rfl] at hx161_4)
                                      (try rw [Addr.add_zero'] at hx161_4)
                                      (try rw [show ((0 : Int)).toNat = 0 from rfl] at hx161_5)
                                      (try rw [show 0 * 6 = 0 from rfl] at hx161_5)
                                      (try rw [Addr.add_zero'] at hx161_5)
                                      replace hx161_0 := (HB.out.cell (World.block_lt_of_cell? w _ hx161_0)).trans hx161_0
                                      replace hx161_1 := (HB.out.cell (World.block_lt_of_cell? w _ hx161_1)).trans hx161_1
                                      replace hx161_2 := (HB.out.cell (World.block_lt_of_cell? w _ hx161_2)).trans hx161_2
                                      replace hx161_3 := (HB.out.cell (World.block_lt_of_cell? w _ hx161_3)).trans hx161_3
                                      replace hx161_4 := (HB.out.cell (World.block_lt_of_cell? w _ hx161_4)).trans hx161_4
                                      replace hx161_5 := (HB.out.cell (World.block_lt_of_cell? w _ hx161_5)).trans hx161_5
                                      have HR161_5 := Aside0.mk hi161_5
                                      have HC161_5 := Aside0.mk hl161_5
                                      clear hi161_5 hl161_5
                                      replace p161 := eq_true p161
                                      replace q161 := eq_true q161
                                      have p169 : 0 ≤ (x9_3 : Int) := of_decide_eq_true (by first | (with_reducible assumption) | assumption)
                                      have q169 : x9_3 < (t148.length : Int) := of_decide_eq_true (by first | (with_reducible assumption) | assumption)
                                      obtain ⟨ad169, e169, hx169_0⟩ := Kd.at_int (Kd.R_reads' HO_6.out).2.2 x9_3 p169 q169
                                      cases e169
                                      replace p169 := eq_true p169
                                      replace q169 := eq_true q169
                                      refine start_ (n := 32) (S := fun w' => w'.cell? ad151 = some (.int .i64 ((rd_T41 l0 0).f0)) ∧ w'.cell? ⟨ad151.block, ad151.off + 1, none⟩ = some (.int .i64 ((rd_T41 l0 0).f1)) ∧ w'.cell? ⟨ad151.block, ad151.off + 2, none⟩ = some (.int .i64 ((rd_T41 l0 0).f2.f0)) ∧ w'.cell? ⟨ad151.block, ad151.off + 3, none⟩ = some (.int .i64 ((rd_T41 l0 0).f2.f1)) ∧ w'.cell? ⟨ad151.block, ad151.off + 4, none⟩ = some (.int .i64 ((rd_T41 l0 0).f2.f2)) ∧ w'.cell? ⟨ad151.block, ad151.off + 5, none⟩ = some (.slice A151_5 ((rd_T41 l0 0).f3).length c151_5) ∧ w'.cell? (ad159.add (x8_2).toNat) = some (.int .i64 (rd t145 x8_2)) ∧ w'.cell? ad161 = some (.int .i64 ((rd_T41 l1 0).f0)) ∧ w'.cell? ⟨ad161.block, ad161.off + 1, none⟩ = some (.int .i64 ((rd_T41 l1 0).f1)) ∧ w'.cell? ⟨ad161.block, ad161.off + 2, none⟩ = some (.int .i64 ((rd_T41 l1 0).f2.f0)) ∧ w'.cell? ⟨ad161.block, ad161.off + 3, none⟩ = some (.int .i64 ((rd_T41 l1 0).f2.f1)) ∧ w'.cell? ⟨ad161.block, ad161.off + 4, none⟩ = some (.int .i64 ((rd_T41 l1 0).f2.f2)) ∧ w'.cell? ⟨ad161.block, ad161.off + 5, none⟩ = some (.slice A161_5 ((rd_T41 l1 0).f3).length c161_5) ∧ w'.cell? (ad169.add (x9_3).toNat) = some (.int .i64 (rd t148 x9_3)) ∧ True ∧ True) (ds := []) (bz 32 0) (by kernel_rfl) rfl (by kernel_rfl) ⟨((HB.out.cell (World.block_lt_of_cell? w _ hw151_0)).trans hw151_0), ((HB.out.cell (World.block_lt_of_cell? w _ hw151_1)).trans hw151_1), ((HB.out.cell (World.block_lt_of_cell? w _ hw151_2)).trans hw151_2), ((HB.out.cell (World.block_lt_of_cell? w _ hw151_3)).trans hw151_3), ((HB.out.cell (World.block_lt_of_cell? w _ hw151_4)).trans hw151_4), ((HB.out.cell (World.block_lt_of_cell? w _ hw151_5)).trans hw151_5), hx159_0, ((HB.out.cell (World.block_lt_of_cell? w _ hw161_0)).trans hw161_0), ((HB.out.cell (World.block_lt_of_cell? w _ hw161_1)).trans hw161_1), ((HB.out.cell (World.block_lt_of_cell? w _ hw161_2)).trans hw161_2), ((HB.out.cell (World.block_lt_of_cell? w _ hw161_3)).trans hw161_3), ((HB.out.cell (World.block_lt_of_cell? w _ hw161_4)).trans hw161_4), ((HB.out.cell (World.block_lt_of_cell? w _ hw161_5)).trans hw161_5), hx169_0, trivial, trivial⟩ (fun hHeld => ?_); refine with_tabW spec_l19Gap.tab12 spec_l19Gap.bits12 (fun HT_ HW_ => ?_)
                                      generalize wr.drew = w33 at HO_5 HO_6 HB HR151_5 HR161_5 hx151_0 hx151_1 hx151_2 hx151_3 hx151_4 hx151_5 hx159_0 hx161_0 hx161_1 hx161_2 hx161_3 hx161_4 hx161_5 hx169_0 hHeld ⊢
                                      refine px_ (i := 0) (N := some 35) (bz 32 1) (any_of HT_.out (by kernel_rfl)) ?_
                                      refine px_ (i := 1) (N := some 36) (bz 32 3) (any_of HT_.out (by kernel_rfl)) ?_
                                      refine px_ (i := 2) (N := some 37) (bz 32 7) (any_of HT_.out (by kernel_rfl)) ?_
                                      refine px_ (i := 5) (N := some 40) (bz 32 39) (any_of HT_.out (by kernel_rfl)) ?_
                                      refine px_ (i := 8) (N := some 43) (bz 32 295) (any_of HT_.out (by kernel_rfl)) ?_
                                      refine px_ (i := 9) (N := some 44) (bz 32 807) (any_of HT_.out (by kernel_rfl)) ?_
                                      refine px_ (i := 10) (N := some 45) (bz 32 1831) (any_of HT_.out (by kernel_rfl)) ?_
                                      refine px_ (i := 15) (N := some 50) (bz 32 34599) (any_of HT_.out (by kernel_rfl)) ?_
                                      refine px_ (i := 16) (N := some 51) (bz 32 100135) (any_of HT_.out (by kernel_rfl)) ?_
                                      refine px_ (i := 17) (N := some 52) (bz 32 231207) (any_of HT_.out (by kernel_rfl)) ?_
                                      refine px_ (i := 20) (N := some 55) (bz 32 1279783) (any_of HT_.out (by kernel_rfl)) ?_
                                      refine px_ (i := 23) (N := some 58) (bz 32 9668391) (any_of HT_.out (by kernel_rfl)) ?_
                                      refine px_ (i := 24) (N := some 59) (bz 32 26445607) (any_of HT_.out (by kernel_rfl)) ?_
                                      refine px_ (i := 25) (N := some 60) (bz 32 60000039) (any_of HT_.out (by kernel_rfl)) ?_
                                      refine tx_ (i := 3) (N := some 38) (bz 32 60000047) rfl rfl (take_ofW HT_.out HW_.out (by kernel_rfl)) hHeld (by rintro w' ⟨s0, s1, s2, s3, s4, s5, s6, s7, s8, s9, s10, s11, s12, s13, s14, s15⟩; go_simp; with_reducible rfl) ?_
                                      refine tx_ (i := 11) (N := some 46) (bz 32 60002095) rfl rfl (take_ofW HT_.out HW_.out (by kernel_rfl)) hHeld (by rintro w' ⟨s0, s1, s2, s3, s4, s5, s6, s7, s8, s9, s10, s11, s12, s13, s14, s15⟩; go_simp; with_reducible rfl) ?_
                                      refine tx_ (i := 18) (N := some 53) (bz 32 60264239) rfl rfl (take_ofW HT_.out HW_.out (by kernel_rfl)) hHeld (by rintro w' ⟨s0, s1, s2, s3, s4, s5, s6, s7, s8, s9, s10, s11, s12, s13, s14, s15⟩; go_simp; with_reducible rfl) ?_
                                      refine tx_ (i := 26) (N := some 61) (bz 32 127373103) rfl rfl (take_ofW HT_.out HW_.out (by kernel_rfl)) hHeld (by rintro w' ⟨s0, s1, s2, s3, s4, s5, s6, s7, s8, s9, s10, s11, s12, s13, s14, s15⟩; go_simp; with_reducible rfl) ?_
                                      refine one_ (i := 4) (N := some 39) (bz 32 127373119) rfl rfl (one_of HT_.out (by kernel_rfl)) (by decide) (fun K hK => ?_)
                                      refine goes_ Try.func21 (by kernel_rfl) rfl #[.int .i64 ((rd_T41 l0 0).f1)] (by rfl) rfl rfl (by (try simp only [List.map_toArray, List.map_cons, List.map_nil]); first | done | rfl | (simp only [List.length_drop, List.length_take]; rfl)) ?_
                                      with_reducible refine (spec_Stride.calls ((rd_T41 l0 0).f1) t152 _ A16.out).mono ?_
                                      rintro e w' ⟨rfl, ⟨nd, rfl⟩⟩
                                      refine ⟨_, rfl, ?_⟩
                                      refine hK.out _ _ ⟨((HB.out.cell (World.block_lt_of_cell? w _ hw151_0)).trans hw151_0), ((HB.out.cell (World.block_lt_of_cell? w _ hw151_1)).trans hw151_1), ((HB.out.cell (World.block_lt_of_cell? w _ hw151_2)).trans hw151_2), ((HB.out.cell (World.block_lt_of_cell? w _ hw151_3)).trans hw151_3), ((HB.out.cell (World.block_lt_of_cell? w _ hw151_4)).trans hw151_4), ((HB.out.cell (World.block_lt_of_cell? w _ hw151_5)).trans hw151_5), hHeld.2.2.2.2.2.2.1, ((HB.out.cell (World.block_lt_of_cell? w _ hw161_0)).trans hw161_0), ((HB.out.cell (World.block_lt_of_cell? w _ hw161_1)).trans hw161_1), ((HB.out.cell (World.block_lt_of_cell? w _ hw161_2)).trans hw161_2), ((HB.out.cell (World.block_lt_of_cell? w _ hw161_3)).trans hw161_3), ((HB.out.cell (World.block_lt_of_cell? w _ hw161_4)).trans hw161_4), ((HB.out.cell (World.block_lt_of_cell? w _ hw161_5)).trans hw161_5), hHeld.2.2.2.2.2.2.2.2.2.2.2.2.2.1, hHeld.2.2.2.2.2.2.2.2.2.2.2.2.2.2.1, hHeld.2.2.2.2.2.2.2.2.2.2.2.2.2.2.2⟩ (fun hHeld => ?_)
                                      clear hK K
                                      refine nx_ (N := some 39) ?_
                                      refine one_ (i := 6) (N := some 41) (bz 32 127373183) rfl rfl (one_of HT_.out (by kernel_rfl)) (by decide) (fun K hK => ?_)
                                      refine goes_ Try.func25 (by kernel_rfl) rfl #[.slice (some ad151) l0.length c0] (by rfl) rfl rfl (by (try simp only [List.map_toArray, List.map_cons, List.map_nil]); first | done | rfl | (simp only [List.length_drop, List.length_take]; rfl)) ?_
                                      with_reducible refine (spec_l19Sum.calls k3 _ _ l0 t153 t154 t155 _ ?side1 ?side2 A17.out).mono ?_
                                      (case side1 => repeat (first | exact (Kd.C_below HR0.out (by repeat (first | (with_reducible first | exact HB.out | apply below_alloc | apply pw_below_drewN | apply below_drew1) | exact HB.out))) | (with_reducible refine Kd.C_alloc ?_ _) | (with_reducible refine Kd.C_drewN ?_ _) | (with_reducible refine Kd.C_drew ?_)))
                                      (case side2 => exact HC0.out)
                                      rintro e w34 ⟨rfl, hb⟩
                                      have HS6_ := (hb.cell (World.block_lt_of_cell? _ _ (hHeld.2.2.2.2.2.2.1))).trans (hHeld.2.2.2.2.2.2.1)
                                      have HS13_ := (hb.cell (World.block_lt_of_cell? _ _ (hHeld.2.2.2.2.2.2.2.2.2.2.2.2.2.1))).trans (hHeld.2.2.2.2.2.2.2.2.2.2.2.2.2.1)
                                      refine ⟨_, rfl, ?_⟩
                                      have n0_ := Aside0.mk (Kd.R_below (by (with_reducible repeat (first | apply Kd.R_alloc | apply Kd.R_drewN | apply Kd.R_drew)); exact HO_5.out) hb)
                                      have n1_ := Aside0.mk (Kd.R_below (by (with_reducible repeat (first | apply Kd.R_alloc | apply Kd.R_drewN | apply Kd.R_drew)); exact HO_6.out) hb)
                                      have n2_ := Aside0.mk (below_step (by repeat (first | (with_reducible first | exact HB.out | apply below_alloc | apply pw_below_drewN | apply below_drew1) | exact HB.out)) hb)
                                      clear HO_5
                                      clear HO_6
                                      clear HB
                                      have HO_5 := n0_
                                      have HO_6 := n1_
                                      have HB := n2_
                                      clear n0_ n1_ n2_
                                      (try clear hb)
                                      (try clear hb2)
                                      (try clear hk)
                                      (try clear hi)
                                      refine hK.out _ _ ⟨((HB.out.cell (World.block_lt_of_cell? w _ hw151_0)).trans hw151_0), ((HB.out.cell (World.block_lt_of_cell? w _ hw151_1)).trans hw151_1), ((HB.out.cell (World.block_lt_of_cell? w _ hw151_2)).trans hw151_2), ((HB.out.cell (World.block_lt_of_cell? w _ hw151_3)).trans hw151_3), ((HB.out.cell (World.block_lt_of_cell? w _ hw151_4)).trans hw151_4), ((HB.out.cell (World.block_lt_of_cell? w _ hw151_5)).trans hw151_5), HS6_, ((HB.out.cell (World.block_lt_of_cell? w _ hw161_0)).trans hw161_0), ((HB.out.cell (World.block_lt_of_cell? w _ hw161_1)).trans hw161_1), ((HB.out.cell (World.block_lt_of_cell? w _ hw161_2)).trans hw161_2), ((HB.out.cell (World.block_lt_of_cell? w _ hw161_3)).trans hw161_3), ((HB.out.cell (World.block_lt_of_cell? w _ hw161_4)).trans hw161_4), ((HB.out.cell (World.block_lt_of_cell? w _ hw161_5)).trans hw161_5), HS13_, trivial, trivial⟩ (fun hHeld => ?_)
                                      clear hK K
                                      refine nx_ (N := some 41) ?_
                                      refine one_ (i := 7) (N := some 42) (bz 32 127373311) rfl rfl (one_of HT_.out (by kernel_rfl)) (by decide) (fun K hK => ?_)
                                      refine goes_ Try.func24 (by kernel_rfl) rfl #[.agg #[.int .i64 t153, .int .i64 t154, .int .i64 t155]] (by rfl) rfl rfl (by (try simp only [List.map_toArray, List.map_cons, List.map_nil]); first | done | rfl | (simp only [List.length_drop, List.length_take]; rfl)) ?_
                                      with_reducible refine (spec_l13List.calls t153 t154 t155 t156 _ A18.out).mono ?_
                                      rintro e w35 ⟨v157, rfl, ho0, hb⟩
                                      have HS6_ := (hb.cell (World.block_lt_of_cell? _ _ (hHeld.2.2.2.2.2.2.1))).trans (hHeld.2.2.2.2.2.2.1)
                                      have HS13_ := (hb.cell (World.block_lt_of_cell? _ _ (hHeld.2.2.2.2.2.2.2.2.2.2.2.2.2.1))).trans (hHeld.2.2.2.2.2.2.2.2.2.2.2.2.2.1)
                                      refine ⟨_, rfl, ?_⟩
                                      have n0_ := Aside0.mk (Kd.R_elder' (by (with_reducible repeat (first | apply Kd.R_alloc | apply Kd.R_drewN | apply Kd.R_drew)); exact HO_5.out) (Kd.R_base ho0) hb)
                                      have n1_ := Aside0.mk (Kd.R_elder' (by (with_reducible repeat (first | apply Kd.R_alloc | apply Kd.R_drewN | apply Kd.R_drew)); exact HO_6.out) (Kd.R_base ho0) hb)
                                      have n2_ := Aside0.mk (Kd.R_lower (Kd.R_new' (Kd.R_new' ho0 (Kd.R_lt (by (with_reducible repeat (first | apply Kd.R_alloc | apply Kd.R_drewN | apply Kd.R_drew)); exact HO_5.out))) (Kd.R_lt (by (with_reducible repeat (first | apply Kd.R_alloc | apply Kd.R_drewN | apply Kd.R_drew)); exact HO_6.out))) (below_size (by repeat (first | (with_reducible first | exact HB.out | apply below_alloc | apply pw_below_drewN | apply below_drew1) | exact HB.out))))
                                      have n3_ := Aside0.mk (below_step (by repeat (first | (with_reducible first | exact HB.out | apply below_alloc | apply pw_below_drewN | apply below_drew1) | exact HB.out)) hb)
                                      clear HO_5
                                      clear HO_6
                                      clear HB
                                      have HO_5 := n0_
                                      have HO_6 := n1_
                                      have HO158 := n2_
                                      have HB := n3_
                                      clear n0_ n1_ n2_ n3_
                                      (try clear hb)
                                      (try clear hb2)
                                      (try clear hk)
                                      (try clear hi)
                                      (try clear ho0)
                                      obtain ⟨Ao36, co36, eo36⟩ := Kd.R_slice HO158.out
                                      (first | subst eo36 | (injection eo36 with f1_ f2_ f3_; have f4_ := f1_.symm; have f5_ := f3_.symm; clear f1_ f2_ f3_; subst f4_; subst f5_))
                                      have p160 : 0 ≤ ((rd t145 x8_2) : Int) := of_decide_eq_true (by first | (with_reducible assumption) | assumption)
                                      have q160 : (rd t145 x8_2) < (t156.length : Int) := of_decide_eq_true (by first | (with_reducible assumption) | assumption)
                                      obtain ⟨ad160, e160, hx160_0⟩ := Kd.at_int (Kd.R_reads' HO158.out).2.2 (rd t145 x8_2) p160 q160
                                      cases e160
                                      replace p160 := eq_true p160
                                      replace q160 := eq_true q160
                                      refine hK.out _ _ ⟨((HB.out.cell (World.block_lt_of_cell? w _ hw151_0)).trans hw151_0), ((HB.out.cell (World.block_lt_of_cell? w _ hw151_1)).trans hw151_1), ((HB.out.cell (World.block_lt_of_cell? w _ hw151_2)).trans hw151_2), ((HB.out.cell (World.block_lt_of_cell? w _ hw151_3)).trans hw151_3), ((HB.out.cell (World.block_lt_of_cell? w _ hw151_4)).trans hw151_4), ((HB.out.cell (World.block_lt_of_cell? w _ hw151_5)).trans hw151_5), HS6_, ((HB.out.cell (World.block_lt_of_cell? w _ hw161_0)).trans hw161_0), ((HB.out.cell (World.block_lt_of_cell? w _ hw161_1)).trans hw161_1), ((HB.out.cell (World.block_lt_of_cell? w _ hw161_2)).trans hw161_2), ((HB.out.cell (World.block_lt_of_cell? w _ hw161_3)).trans hw161_3), ((HB.out.cell (World.block_lt_of_cell? w _ hw161_4)).trans hw161_4), ((HB.out.cell (World.block_lt_of_cell? w _ hw161_5)).trans hw161_5), HS13_, trivial, trivial⟩ (fun hHeld => ?_)
                                      refine more_ (S2 := fun w' => w'.cell? ad151 = some (.int .i64 ((rd_T41 l0 0).f0)) ∧ w'.cell? ⟨ad151.block, ad151.off + 1, none⟩ = some (.int .i64 ((rd_T41 l0 0).f1)) ∧ w'.cell? ⟨ad151.block, ad151.off + 2, none⟩ = some (.int .i64 ((rd_T41 l0 0).f2.f0)) ∧ w'.cell? ⟨ad151.block, ad151.off + 3, none⟩ = some (.int .i64 ((rd_T41 l0 0).f2.f1)) ∧ w'.cell? ⟨ad151.block, ad151.off + 4, none⟩ = some (.int .i64 ((rd_T41 l0 0).f2.f2)) ∧ w'.cell? ⟨ad151.block, ad151.off + 5, none⟩ = some (.slice A151_5 ((rd_T41 l0 0).f3).length c151_5) ∧ w'.cell? (ad159.add (x8_2).toNat) = some (.int .i64 (rd t145 x8_2)) ∧ w'.cell? ad161 = some (.int .i64 ((rd_T41 l1 0).f0)) ∧ w'.cell? ⟨ad161.block, ad161.off + 1, none⟩ = some (.int .i64 ((rd_T41 l1 0).f1)) ∧ w'.cell? ⟨ad161.block, ad161.off + 2, none⟩ = some (.int .i64 ((rd_T41 l1 0).f2.f0)) ∧ w'.cell? ⟨ad161.block, ad161.off + 3, none⟩ = some (.int .i64 ((rd_T41 l1 0).f2.f1)) ∧ w'.cell? ⟨ad161.block, ad161.off + 4, none⟩ = some (.int .i64 ((rd_T41 l1 0).f2.f2)) ∧ w'.cell? ⟨ad161.block, ad161.off + 5, none⟩ = some (.slice A161_5 ((rd_T41 l1 0).f3).length c161_5) ∧ w'.cell? (ad169.add (x9_3).toNat) = some (.int .i64 (rd t148 x9_3)) ∧ w'.cell? (ad160.add ((rd t145 x8_2)).toNat) = some (.int .i64 (rd t156 (rd t145 x8_2))) ∧ True) (fun w' h => ⟨h.1, h.2.1, h.2.2.1, h.2.2.2.1, h.2.2.2.2.1, h.2.2.2.2.2.1, h.2.2.2.2.2.2.1, h.2.2.2.2.2.2.2.1, h.2.2.2.2.2.2.2.2.1, h.2.2.2.2.2.2.2.2.2.1, h.2.2.2.2.2.2.2.2.2.2.1, h.2.2.2.2.2.2.2.2.2.2.2.1, h.2.2.2.2.2.2.2.2.2.2.2.2.1, h.2.2.2.2.2.2.2.2.2.2.2.2.2.1, trivial, h.2.2.2.2.2.2.2.2.2.2.2.2.2.2.2⟩) ⟨hHeld.1, hHeld.2.1, hHeld.2.2.1, hHeld.2.2.2.1, hHeld.2.2.2.2.1, hHeld.2.2.2.2.2.1, hHeld.2.2.2.2.2.2.1, hHeld.2.2.2.2.2.2.2.1, hHeld.2.2.2.2.2.2.2.2.1, hHeld.2.2.2.2.2.2.2.2.2.1, hHeld.2.2.2.2.2.2.2.2.2.2.1, hHeld.2.2.2.2.2.2.2.2.2.2.2.1, hHeld.2.2.2.2.2.2.2.2.2.2.2.2.1, hHeld.2.2.2.2.2.2.2.2.2.2.2.2.2.1, hx160_0, hHeld.2.2.2.2.2.2.2.2.2.2.2.2.2.2.2⟩ (fun hHeld => ?_)
                                      clear hK K
                                      refine nx_ (N := some 42) ?_
                                      refine px_ (i := 12) (N := some 47) (bz 32 127377407) (any_of HT_.out (by kernel_rfl)) ?_
                                      refine tx_ (i := 13) (N := some 48) (bz 32 127385599) rfl rfl (take_ofW HT_.out HW_.out (by kernel_rfl)) hHeld (by rintro w' ⟨s0, s1, s2, s3, s4, s5, s6, s7, s8, s9, s10, s11, s12, s13, s14, s15⟩; go_simp; with_reducible rfl) ?_
                                      refine px_ (i := 14) (N := some 49) (bz 32 127401983) (any_of HT_.out (by kernel_rfl)) ?_
                                      refine one_ (i := 19) (N := some 54) (bz 32 127926271) rfl rfl (one_of HT_.out (by kernel_rfl)) (by decide) (fun K hK => ?_)
                                      refine goes_ Try.func21 (by kernel_rfl) rfl #[.int .i64 ((rd_T41 l1 0).f1)] (by rfl) rfl rfl (by (try simp only [List.map_toArray, List.map_cons, List.map_nil]); first | done | rfl | (simp only [List.length_drop, List.length_take]; rfl)) ?_
                                      with_reducible refine (spec_Stride.calls ((rd_T41 l1 0).f1) t162 _ A24.out).mono ?_
                                      rintro e w' ⟨rfl, ⟨nd, rfl⟩⟩
                                      refine ⟨_, rfl, ?_⟩
                                      refine hK.out _ _ ⟨((HB.out.cell (World.block_lt_of_cell? w _ hw151_0)).trans hw151_0), ((HB.out.cell (World.block_lt_of_cell? w _ hw151_1)).trans hw151_1), ((HB.out.cell (World.block_lt_of_cell? w _ hw151_2)).trans hw151_2), ((HB.out.cell (World.block_lt_of_cell? w _ hw151_3)).trans hw151_3), ((HB.out.cell (World.block_lt_of_cell? w _ hw151_4)).trans hw151_4), ((HB.out.cell (World.block_lt_of_cell? w _ hw151_5)).trans hw151_5), hHeld.2.2.2.2.2.2.1, ((HB.out.cell (World.block_lt_of_cell? w _ hw161_0)).trans hw161_0), ((HB.out.cell (World.block_lt_of_cell? w _ hw161_1)).trans hw161_1), ((HB.out.cell (World.block_lt_of_cell? w _ hw161_2)).trans hw161_2), ((HB.out.cell (World.block_lt_of_cell? w _ hw161_3)).trans hw161_3), ((HB.out.cell (World.block_lt_of_cell? w _ hw161_4)).trans hw161_4), ((HB.out.cell (World.block_lt_of_cell? w _ hw161_5)).trans hw161_5), hHeld.2.2.2.2.2.2.2.2.2.2.2.2.2.1, hHeld.2.2.2.2.2.2.2.2.2.2.2.2.2.2.1, hHeld.2.2.2.2.2.2.2.2.2.2.2.2.2.2.2⟩ (fun hHeld => ?_)
                                      clear hK K
                                      refine nx_ (N := some 54) ?_
                                      refine one_ (i := 21) (N := some 56) (bz 32 130023423) rfl rfl (one_of HT_.out (by kernel_rfl)) (by decide) (fun K hK => ?_)
                                      refine goes_ Try.func25 (by kernel_rfl) rfl #[.slice (some ad161) l1.length c1] (by rfl) rfl rfl (by (try simp only [List.map_toArray, List.map_cons, List.map_nil]); first | done | rfl | (simp only [List.length_drop, List.length_take]; rfl)) ?_
                                      with_reducible refine (spec_l19Sum.calls k3 _ _ l1 t163 t164 t165 _ ?side1 ?side2 A25.out).mono ?_
                                      (case side1 => repeat (first | exact (Kd.C_below HR1.out (by repeat (first | (with_reducible first | exact HB.out | apply below_alloc | apply pw_below_drewN | apply below_drew1) | exact HB.out))) | (with_reducible refine Kd.C_alloc ?_ _) | (with_reducible refine Kd.C_drewN ?_ _) | (with_reducible refine Kd.C_drew ?_)))
                                      (case side2 => exact HC1.out)
                                      rintro e w37 ⟨rfl, hb⟩
                                      have HS6_ := (hb.cell (World.block_lt_of_cell? _ _ (hHeld.2.2.2.2.2.2.1))).trans (hHeld.2.2.2.2.2.2.1)
                                      have HS13_ := (hb.cell (World.block_lt_of_cell? _ _ (hHeld.2.2.2.2.2.2.2.2.2.2.2.2.2.1))).trans (hHeld.2.2.2.2.2.2.2.2.2.2.2.2.2.1)
                                      have HS14_ := (hb.cell (World.block_lt_of_cell? _ _ (hHeld.2.2.2.2.2.2.2.2.2.2.2.2.2.2.1))).trans (hHeld.2.2.2.2.2.2.2.2.2.2.2.2.2.2.1)
                                      refine ⟨_, rfl, ?_⟩
                                      have n0_ := Aside0.mk (Kd.R_below (by (with_reducible repeat (first | apply Kd.R_alloc | apply Kd.R_drewN | apply Kd.R_drew)); exact HO_5.out) hb)
                                      have n1_ := Aside0.mk (Kd.R_below (by (with_reducible repeat (first | apply Kd.R_alloc | apply Kd.R_drewN | apply Kd.R_drew)); exact HO_6.out) hb)
                                      have n2_ := Aside0.mk (Kd.R_below (by (with_reducible repeat (first | apply Kd.R_alloc | apply Kd.R_drewN | apply Kd.R_drew)); exact HO158.out) hb)
                                      have n3_ := Aside0.mk (below_step (by repeat (first | (with_reducible first | exact HB.out | apply below_alloc | apply pw_below_drewN | apply below_drew1) | exact HB.out)) hb)
                                      clear HO_5
                                      clear HO_6
                                      clear HO158
                                      clear HB
                                      have HO_5 := n0_
                                      have HO_6 := n1_
                                      have HO158 := n2_
                                      have HB := n3_
                                      clear n0_ n1_ n2_ n3_
                                      (try clear hb)
                                      (try clear hb2)
                                      (try clear hk)
                                      (try clear hi)
                                      refine hK.out _ _ ⟨((HB.out.cell (World.block_lt_of_cell? w _ hw151_0)).trans hw151_0), ((HB.out.cell (World.block_lt_of_cell? w _ hw151_1)).trans hw151_1), ((HB.out.cell (World.block_lt_of_cell? w _ hw151_2)).trans hw151_2), ((HB.out.cell (World.block_lt_of_cell? w _ hw151_3)).trans hw151_3), ((HB.out.cell (World.block_lt_of_cell? w _ hw151_4)).trans hw151_4), ((HB.out.cell (World.block_lt_of_cell? w _ hw151_5)).trans hw151_5), HS6_, ((HB.out.cell (World.block_lt_of_cell? w _ hw161_0)).trans hw161_0), ((HB.out.cell (World.block_lt_of_cell? w _ hw161_1)).trans hw161_1), ((HB.out.cell (World.block_lt_of_cell? w _ hw161_2)).trans hw161_2), ((HB.out.cell (World.block_lt_of_cell? w _ hw161_3)).trans hw161_3), ((HB.out.cell (World.block_lt_of_cell? w _ hw161_4)).trans hw161_4), ((HB.out.cell (World.block_lt_of_cell? w _ hw161_5)).trans hw161_5), HS13_, HS14_, trivial⟩ (fun hHeld => ?_)
                                      clear hK K
                                      refine nx_ (N := some 56) ?_
                                      refine one_ (i := 22) (N := some 57) (bz 32 134217727) rfl rfl (one_of HT_.out (by kernel_rfl)) (by decide) (fun K hK => ?_)
                                      refine goes_ Try.func24 (by kernel_rfl) rfl #[.agg #[.int .i64 t163, .int .i64 t164, .int .i64 t165]] (by rfl) rfl rfl (by (try simp only [List.map_toArray, List.map_cons, List.map_nil]); first | done | rfl | (simp only [List.length_drop, List.length_take]; rfl)) ?_
                                      with_reducible refine (spec_l13List.calls t163 t164 t165 t166 _ A26.out).mono ?_
                                      rintro e w38 ⟨v167, rfl, ho0, hb⟩
                                      have HS6_ := (hb.cell (World.block_lt_of_cell? _ _ (hHeld.2.2.2.2.2.2.1))).trans (hHeld.2.2.2.2.2.2.1)
                                      have HS13_ := (hb.cell (World.block_lt_of_cell? _ _ (hHeld.2.2.2.2.2.2.2.2.2.2.2.2.2.1))).trans (hHeld.2.2.2.2.2.2.2.2.2.2.2.2.2.1)
                                      have HS14_ := (hb.cell (World.block_lt_of_cell? _ _ (hHeld.2.2.2.2.2.2.2.2.2.2.2.2.2.2.1))).trans (hHeld.2.2.2.2.2.2.2.2.2.2.2.2.2.2.1)
                                      refine ⟨_, rfl, ?_⟩
                                      have n0_ := Aside0.mk (Kd.R_elder' (by (with_reducible repeat (first | apply Kd.R_alloc | apply Kd.R_drewN | apply Kd.R_drew)); exact HO_5.out) (Kd.R_base ho0) hb)
                                      have n1_ := Aside0.mk (Kd.R_elder' (by (with_reducible repeat (first | apply Kd.R_alloc | apply Kd.R_drewN | apply Kd.R_drew)); exact HO_6.out) (Kd.R_base ho0) hb)
                                      have n2_ := Aside0.mk (Kd.R_elder' (by (with_reducible repeat (first | apply Kd.R_alloc | apply Kd.R_drewN | apply Kd.R_drew)); exact HO158.out) (Kd.R_base ho0) hb)
                                      have n3_ := Aside0.mk (Kd.R_lower (Kd.R_new' (Kd.R_new' (Kd.R_new' ho0 (Kd.R_lt (by (with_reducible repeat (first | apply Kd.R_alloc | apply Kd.R_drewN | apply Kd.R_drew)); exact HO_5.out))) (Kd.R_lt (by (with_reducible repeat (first | apply Kd.R_alloc | apply Kd.R_drewN | apply Kd.R_drew)); exact HO_6.out))) (Kd.R_lt (by (with_reducible repeat (first | apply Kd.R_alloc | apply Kd.R_drewN | apply Kd.R_drew)); exact HO158.out))) (below_size (by repeat (first | (with_reducible first | exact HB.out | apply below_alloc | apply pw_below_drewN | apply below_drew1) | exact HB.out))))
                                      have n4_ := Aside0.mk (below_step (by repeat (first | (with_reducible first | exact HB.out | apply below_alloc | apply pw_below_drewN | apply below_drew1) | exact HB.out)) hb)
                                      clear HO_5
                                      clear HO_6
                                      clear HO158
                                      clear HB
                                      have HO_5 := n0_
                                      have HO_6 := n1_
                                      have HO158 := n2_
                                      have HO168 := n3_
                                      have HB := n4_
                                      clear n0_ n1_ n2_ n3_ n4_
                                      (try clear hb)
                                      (try clear hb2)
                                      (try clear hk)
                                      (try clear hi)
                                      (try clear ho0)
                                      obtain ⟨Ao39, co39, eo39⟩ := Kd.R_slice HO168.out
                                      (first | subst eo39 | (injection eo39 with f1_ f2_ f3_; have f4_ := f1_.symm; have f5_ := f3_.symm; clear f1_ f2_ f3_; subst f4_; subst f5_))
                                      have p170 : 0 ≤ ((rd t148 x9_3) : Int) := of_decide_eq_true (by first | (with_reducible assumption) | assumption)
                                      have q170 : (rd t148 x9_3) < (t166.length : Int) := of_decide_eq_true (by first | (with_reducible assumption) | assumption)
                                      obtain ⟨ad170, e170, hx170_0⟩ := Kd.at_int (Kd.R_reads' HO168.out).2.2 (rd t148 x9_3) p170 q170
                                      cases e170
                                      replace p170 := eq_true p170
                                      replace q170 := eq_true q170
                                      refine hK.out _ _ ⟨((HB.out.cell (World.block_lt_of_cell? w _ hw151_0)).trans hw151_0), ((HB.out.cell (World.block_lt_of_cell? w _ hw151_1)).trans hw151_1), ((HB.out.cell (World.block_lt_of_cell? w _ hw151_2)).trans hw151_2), ((HB.out.cell (World.block_lt_of_cell? w _ hw151_3)).trans hw151_3), ((HB.out.cell (World.block_lt_of_cell? w _ hw151_4)).trans hw151_4), ((HB.out.cell (World.block_lt_of_cell? w _ hw151_5)).trans hw151_5), HS6_, ((HB.out.cell (World.block_lt_of_cell? w _ hw161_0)).trans hw161_0), ((HB.out.cell (World.block_lt_of_cell? w _ hw161_1)).trans hw161_1), ((HB.out.cell (World.block_lt_of_cell? w _ hw161_2)).trans hw161_2), ((HB.out.cell (World.block_lt_of_cell? w _ hw161_3)).trans hw161_3), ((HB.out.cell (World.block_lt_of_cell? w _ hw161_4)).trans hw161_4), ((HB.out.cell (World.block_lt_of_cell? w _ hw161_5)).trans hw161_5), HS13_, HS14_, trivial⟩ (fun hHeld => ?_)
                                      refine more_ (S2 := fun w' => w'.cell? ad151 = some (.int .i64 ((rd_T41 l0 0).f0)) ∧ w'.cell? ⟨ad151.block, ad151.off + 1, none⟩ = some (.int .i64 ((rd_T41 l0 0).f1)) ∧ w'.cell? ⟨ad151.block, ad151.off + 2, none⟩ = some (.int .i64 ((rd_T41 l0 0).f2.f0)) ∧ w'.cell? ⟨ad151.block, ad151.off + 3, none⟩ = some (.int .i64 ((rd_T41 l0 0).f2.f1)) ∧ w'.cell? ⟨ad151.block, ad151.off + 4, none⟩ = some (.int .i64 ((rd_T41 l0 0).f2.f2)) ∧ w'.cell? ⟨ad151.block, ad151.off + 5, none⟩ = some (.slice A151_5 ((rd_T41 l0 0).f3).length c151_5) ∧ w'.cell? (ad159.add (x8_2).toNat) = some (.int .i64 (rd t145 x8_2)) ∧ w'.cell? ad161 = some (.int .i64 ((rd_T41 l1 0).f0)) ∧ w'.cell? ⟨ad161.block, ad161.off + 1, none⟩ = some (.int .i64 ((rd_T41 l1 0).f1)) ∧ w'.cell? ⟨ad161.block, ad161.off + 2, none⟩ = some (.int .i64 ((rd_T41 l1 0).f2.f0)) ∧ w'.cell? ⟨ad161.block, ad161.off + 3, none⟩ = some (.int .i64 ((rd_T41 l1 0).f2.f1)) ∧ w'.cell? ⟨ad161.block, ad161.off + 4, none⟩ = some (.int .i64 ((rd_T41 l1 0).f2.f2)) ∧ w'.cell? ⟨ad161.block, ad161.off + 5, none⟩ = some (.slice A161_5 ((rd_T41 l1 0).f3).length c161_5) ∧ w'.cell? (ad169.add (x9_3).toNat) = some (.int .i64 (rd t148 x9_3)) ∧ w'.cell? (ad160.add ((rd t145 x8_2)).toNat) = some (.int .i64 (rd t156 (rd t145 x8_2))) ∧ w'.cell? (ad170.add ((rd t148 x9_3)).toNat) = some (.int .i64 (rd t166 (rd t148 x9_3)))) (fun w' h => ⟨h.1, h.2.1, h.2.2.1, h.2.2.2.1, h.2.2.2.2.1, h.2.2.2.2.2.1, h.2.2.2.2.2.2.1, h.2.2.2.2.2.2.2.1, h.2.2.2.2.2.2.2.2.1, h.2.2.2.2.2.2.2.2.2.1, h.2.2.2.2.2.2.2.2.2.2.1, h.2.2.2.2.2.2.2.2.2.2.2.1, h.2.2.2.2.2.2.2.2.2.2.2.2.1, h.2.2.2.2.2.2.2.2.2.2.2.2.2.1, h.2.2.2.2.2.2.2.2.2.2.2.2.2.2.1, trivial⟩) ⟨hHeld.1, hHeld.2.1, hHeld.2.2.1, hHeld.2.2.2.1, hHeld.2.2.2.2.1, hHeld.2.2.2.2.2.1, hHeld.2.2.2.2.2.2.1, hHeld.2.2.2.2.2.2.2.1, hHeld.2.2.2.2.2.2.2.2.1, hHeld.2.2.2.2.2.2.2.2.2.1, hHeld.2.2.2.2.2.2.2.2.2.2.1, hHeld.2.2.2.2.2.2.2.2.2.2.2.1, hHeld.2.2.2.2.2.2.2.2.2.2.2.2.1, hHeld.2.2.2.2.2.2.2.2.2.2.2.2.2.1, hHeld.2.2.2.2.2.2.2.2.2.2.2.2.2.2.1, hx170_0⟩ (fun hHeld => ?_)
                                      clear hK K
                                      refine nx_ (N := some 57) ?_
                                      refine px_ (i := 27) (N := some 62) (bz 32 268435455) (any_of HT_.out (by kernel_rfl)) ?_
                                      refine tx_ (i := 28) (N := some 63) (bz 32 536870911) rfl rfl (take_ofW HT_.out HW_.out (by kernel_rfl)) hHeld (by rintro w' ⟨s0, s1, s2, s3, s4, s5, s6, s7, s8, s9, s10, s11, s12, s13, s14, s15⟩; go_simp; with_reducible rfl) ?_
                                      refine px_ (i := 29) (N := some 64) (bz 32 1073741823) (any_of HT_.out (by kernel_rfl)) ?_
                                      refine px_ (i := 30) (N := some 65) (bz 32 2147483647) (any_of HT_.out (by kernel_rfl)) ?_
                                      refine px_ (i := 31) (N := some 10) (bz 32 4294967295) (any_of HT_.out (by kernel_rfl)) ?_
                                      refine done_ (done_of HT_.out (by kernel_rfl)) ?_
                                      try go_wp2
                                      go_roundg k3
                                      case measure => have := HJ2.out; have := HK2.out; have := HK3.out; omega
                                      case rel => exact ⟨(ji31), (wrap64 (x9_3 + 1)), (by first | rfl | (simp; done) | (simp only [← hji31] <;> (first | rfl | simp)) | (simp [*]; done)), (by first | rfl | (simp; done) | (simp [*]; done)), H', ⟨by have := HJ2.out; have := HK2.out; have := HK3.out; omega⟩, ⟨by (with_reducible repeat (first | apply Kd.R_alloc | apply Kd.R_drewN | apply Kd.R_drew)); exact Kd.R_mono HO_5.out (fun _ hk => hk.1.1)⟩, ⟨by (with_reducible repeat (first | apply Kd.R_alloc | apply Kd.R_drewN | apply Kd.R_drew)); exact Kd.R_mono HO_6.out (fun _ hk => hk.1.1)⟩, ⟨by repeat (first | (with_reducible first | exact HB.out | apply below_alloc | apply pw_below_drewN | apply below_drew1) | exact HB.out)⟩⟩
                                    · rw [if_neg c29] at H
                                      exact absurd H (by simp)
                                  · rw [if_neg c28] at H
                                    exact absurd H (by simp)
                                · rw [if_neg c27] at H
                                  exact absurd H (by simp)
                              · rw [if_neg c23] at H
                                exact absurd H (by simp)
                            · rw [if_neg c22] at H
                              exact absurd H (by simp)
                          · rw [if_neg c21] at H
                            exact absurd H (by simp)
                        · rw [if_neg c20] at H
                          exact absurd H (by simp)
                      · rw [if_neg c19] at H
                        exact absurd H (by simp)
                    · rw [if_neg c15] at H
                      exact absurd H (by simp)
                  · rw [if_neg c14] at H
                    have c14b0 : decide (x9_3 < (t148.length : Int)) = false := decide_eq_false c14
                    clear c14
                    have H' := Aside0.mk H
                    clear H
                    obtain ⟨Ao40, co40, eo40⟩ := Kd.R_slice HO_6.out
                    subst eo40
                    go_wp2
                    go_roundg k3
                    case measure => have := HJ2.out; have := HK2.out; have := HK3.out; omega
                    case rel => exact ⟨(x7_3), (wrap64 (x8_2 + 1)), (by first | rfl | (simp; done) | (simp [*]; done)), (by first | rfl | (simp; done) | (simp [*]; done)), H', ⟨by have := HJ2.out; have := HK2.out; have := HK3.out; omega⟩, ⟨by (with_reducible repeat (first | apply Kd.R_alloc | apply Kd.R_drewN | apply Kd.R_drew)); exact HO_5.out⟩, ⟨by (with_reducible repeat (first | apply Kd.R_alloc | apply Kd.R_drewN | apply Kd.R_drew)); exact HO_6.out⟩, ⟨by repeat (first | (with_reducible first | exact HB.out | apply below_alloc | apply pw_below_drewN | apply below_drew1) | exact HB.out)⟩⟩
            · rw [if_neg c12] at H
              have c12b0 : decide (x8_2 < (t145.length : Int)) = false := decide_eq_false c12
              clear c12
              obtain rfl := Option.some.inj H
              obtain ⟨Ao41, co41, eo41⟩ := Kd.R_slice HO_5.out
              subst eo41
              go_wp2
              go_ret
              exact ⟨by first | rfl | (simp [errW_none, errW_some] <;> rfl) | (simp [*, errW_none, errW_some] <;> rfl), by repeat (first | (with_reducible first | exact HB.out | apply below_alloc | apply pw_below_drewN | apply below_drew1) | exact HB.out)⟩

end Go.Proofs.Ytecabogkenabnaa.PFnExactWorstSpan
