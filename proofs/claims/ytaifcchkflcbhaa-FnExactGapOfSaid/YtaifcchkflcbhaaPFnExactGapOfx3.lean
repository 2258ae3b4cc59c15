-- by a program of this session's, over the kit's words
import Derived.Test.YtaifcchkflcbhaaPFnExactGapOfx0
import Derived.Test.YtaifcchkflcbhaaPFnExactGapOfx1
import Derived.Test.YtaifcchkflcbhaaPFnExactGapOfx2
namespace Go.Proofs.Ytaifcchkflcbhaa.PFnExactGapOf
open Go.RowKit Go.Proofs.YtaifcchkflcbhaaW.PrintWords Go.Proofs.YtaifcchkflcbhaaW.PrintLast Go.Proofs.YtaifcchkflcbhaaW.PrintMore Go.Proofs.YtaifcchkflcbhaaV
attribute [local go_sem] max2_int min2_int max_two min_two max_three min_three max_four min_four   -- for this text's walks alone
set_option linter.unusedVariables false
set_option linter.unusedSimpArgs false

/-! ### spec_Both: function 110 -/
def spec_Both.l0 : Nat → List (S177) → Int → Int → Int → Int → Option (Bool)
  | 0, _, _, _, _, _ => none
  | k + 1, x0, x1, x2, x4, x11 => if x11 < x4 then (if 0 ≤ x11 then (if x11 < (x0.length : Int) then ((spec_l19In.f k ((rd_T177 x0 x11).f3) x1).bind fun t121 => (if t121 = true then ((spec_l19In.f k ((rd_T177 x0 x11).f3) x2).bind fun t123 => (if t123 = true then (spec_Both.l0 k x0 x1 x2 x4 (wrap64 (x11 + 1))) else (some false))) else (some false))) else (none)) else (none)) else (some true)
def spec_Both.f (k : Nat) (l0 : List (S177)) (a1 : Int) (a2 : Int) (a3 : Int) (a4 : Int) : Option (Bool) := (spec_l19Span.f k l0 a3 a4).bind fun t119 => (if t119 = true then (spec_Both.l0 k l0 a1 a2 a4 a3) else (some false))
set_option maxHeartbeats 8000000 in
set_option maxRecDepth 100000 in
theorem spec_Both.calls (k : Nat) (A0 : Option Addr) (c0 : Nat) (l0 : List (S177)) (a1 : Int) (a2 : Int) (a3 : Int) (a4 : Int) (r : Bool) (w : World) (hr0 : Kd.C k177 w A0 l0.length l0) (hc0 : l0.length ≤ c0) (h : spec_Both.f k l0 a1 a2 a3 a4 = some r) :
    Calls Try.prog 110 #[.slice A0 l0.length c0, .int .i64 a1, .int .i64 a2, .int .i64 a3, .int .i64 a4] w fun e w' => e = .returned (.bool r) ∧ Below w.heap.size w w' := by
  have HR0 := Aside0.mk hr0
  have HC0 := Aside0.mk hc0
  clear hr0 hc0
  have HB := Aside0.mk (Below.refl w.heap.size w)
  have H : ((spec_l19Span.f k l0 a3 a4).bind fun t119 => (if t119 = true then (spec_Both.l0 k l0 a1 a2 a4 a3) else (some false))) = some r := h
  clear h
  replace H := Option.bind_eq_some_iff.mp H
  obtain ⟨t119, A60, H⟩ := H
  replace H : (if t119 = true then (spec_Both.l0 k l0 a1 a2 a4 a3) else (some false)) = some r := H
  have A6 := Aside0.mk A60
  clear A60
  have HU7 := Aside0.mk H
  clear H
  go_enter Try.func110, Try.ntmps110
  go_upto_if 16 with (first | ((with_reducible refine gate_callee (f := 230) rfl ?_); refine goesL_ (some 15) rfl rfl Try.func230 (by kernel_rfl) rfl #[.slice A0 l0.length c0, .int .i64 a3, .int .i64 a4] rfl (by (try simp only [List.map_toArray, List.map_cons, List.map_nil]); first | done | rfl | (simp only [List.length_drop, List.length_take]; rfl)) ?_; (with_reducible refine (spec_l19Span.calls k _ _ l0 a3 a4 t119 _ ?side1 ?side2 A6.out).mono ?_); (case side1 => repeat (first | exact HR0.out | (with_reducible refine Kd.C_alloc ?_ _) | (with_reducible refine Kd.C_drewN ?_ _) | (with_reducible refine Kd.C_drew ?_))); (case side2 => exact HC0.out); rintro e w8 ⟨rfl, hb⟩; refine ⟨_, rfl, ?_⟩; have n0_ := Aside0.mk (below_step (by repeat (first | (with_reducible first | exact HB.out | apply below_alloc | apply pw_below_drewN | apply below_drew1) | exact HB.out)) hb); clear HB; have HB := n0_; clear n0_; (try clear hb); (try clear hb2); (try clear hk); (try clear hi)))
  have H := HU7.out
  clear HU7
  by_cases c9 : t119 = true
  · subst c9
    have H1 : (spec_Both.l0 k l0 a1 a2 a4 a3) = some r := by rw [if_pos rfl] at H; exact H
    clear H
    have H := H1
    clear H1
    have H' := Aside0.mk H
    clear H
    go_wp2
    go_loopg [11] k (fun kq v11 w' => ∃ (x11_1 : Int), v11 = .int .i64 x11_1 ∧ Aside0 (spec_Both.l0 kq l0 a1 a2 a4 x11_1 = some r) ∧ Aside0 (kq ≤ k) ∧ Aside0 (Below w.heap.size w w'))
    case atStart => exact ⟨(a3), (by first | rfl | (simp; done) | (simp [*]; done)), H', ⟨Nat.le_refl _⟩, ⟨by repeat (first | (with_reducible first | exact HB.out | apply below_alloc | apply pw_below_drewN | apply below_drew1) | exact HB.out)⟩⟩
    case round =>
      clear H'
      try clear c1
      try clear c2
      try clear p2
      try clear c9
      obtain ⟨x11_1, rfl, HA, HK1, HB⟩ := hrel
      cases gk with
      | zero => exact absurd HA.out (by simp [spec_Both.l0])
      | succ k1 =>
        have H := HA.out
        clear HA
        simp only [spec_Both.l0] at H
        by_cases c10 : x11_1 < a4
        · rw [if_pos c10] at H
          have c10b0 : decide (x11_1 < a4) = true := decide_eq_true c10
          clear c10
          (first | rw [c10b0] | (simp only [i64_w, i32_w]; rw [c10b0]) | skip)
          by_cases c11 : 0 ≤ x11_1
          · rw [if_pos c11] at H
            have c11b0 : decide (0 ≤ x11_1) = true := decide_eq_true c11
            clear c11
            by_cases c12 : x11_1 < (l0.length : Int)
            · rw [if_pos c12] at H
              have c12b0 : decide (x11_1 < (l0.length : Int)) = true := decide_eq_true c12
              clear c12
              replace H := Option.bind_eq_some_iff.mp H
              obtain ⟨t121, A130, H⟩ := H
              replace H : (if t121 = true then ((spec_l19In.f k1 ((rd_T177 l0 x11_1).f3) a2).bind fun t123 => (if t123 = true then (spec_Both.l0 k1 l0 a1 a2 a4 (wrap64 (x11_1 + 1))) else (some false))) else (some false)) = some r := H
              have A13 := Aside0.mk A130
              clear A130
              by_cases c14 : t121 = true
              · subst c14
                have H1 : ((spec_l19In.f k1 ((rd_T177 l0 x11_1).f3) a2).bind fun t123 => (if t123 = true then (spec_Both.l0 k1 l0 a1 a2 a4 (wrap64 (x11_1 + 1))) else (some false))) = some r := by rw [if_pos rfl] at H; exact H
                clear H
                have H := H1
                clear H1
                replace H := Option.bind_eq_some_iff.mp H
                obtain ⟨t123, A150, H⟩ := H
                replace H : (if t123 = true then (spec_Both.l0 k1 l0 a1 a2 a4 (wrap64 (x11_1 + 1))) else (some false)) = some r := H
                have A15 := Aside0.mk A150
                clear A150
                have HU16 := Aside0.mk H
                clear H
                have p120 : 0 ≤ (x11_1 : Int) := of_decide_eq_true (by first | (with_reducible assumption) | assumption)
                have q120 : x11_1 < (l0.length : Int) := of_decide_eq_true (by first | (with_reducible assumption) | assumption)
                obtain ⟨ad120, A120_5, c120_5, e120, hx120_0, hx120_1, hx120_2, hx120_3, hx120_4, hx120_5, hl120_5, hi120_5⟩ := at_T177 HR0.out x11_1 p120 q120
                cases e120
                replace hx120_0 := (HB.out.cell (World.block_lt_of_cell? w _ hx120_0)).trans hx120_0
                replace hx120_1 := (HB.out.cell (World.block_lt_of_cell? w _ hx120_1)).trans hx120_1
                replace hx120_2 := (HB.out.cell (World.block_lt_of_cell? w _ hx120_2)).trans hx120_2
                replace hx120_3 := (HB.out.cell (World.block_lt_of_cell? w _ hx120_3)).trans hx120_3
                replace hx120_4 := (HB.out.cell (World.block_lt_of_cell? w _ hx120_4)).trans hx120_4
                replace hx120_5 := (HB.out.cell (World.block_lt_of_cell? w _ hx120_5)).trans hx120_5
                have HR120_5 := Aside0.mk hi120_5
                have HC120_5 := Aside0.mk hl120_5
                clear hi120_5 hl120_5
                replace p120 := eq_true p120
                replace q120 := eq_true q120
                go_upto_if 40 with (first | ((with_reducible refine gate_callee (f := 131) rfl ?_); refine goesL_ (some 29) rfl rfl Try.func131 (by kernel_rfl) rfl #[.slice A120_5 ((rd_T177 l0 x11_1).f3).length c120_5, .int .i64 a1] rfl (by (try simp only [List.map_toArray, List.map_cons, List.map_nil]); first | done | rfl | (simp only [List.length_drop, List.length_take]; rfl)) ?_; (with_reducible refine (spec_l19In.calls k1 _ _ ((rd_T177 l0 x11_1).f3) a1 true _ ?side1 ?side2 A13.out).mono ?_); (case side1 => repeat (first | exact (Kd.C_below HR120_5.out HB.out) | (with_reducible refine Kd.C_alloc ?_ _) | (with_reducible refine Kd.C_drewN ?_ _) | (with_reducible refine Kd.C_drew ?_))); (case side2 => exact HC120_5.out); rintro e w' ⟨rfl, ⟨nd, rfl⟩⟩; refine ⟨_, rfl, ?_⟩; have p122 : 0 ≤ (x11_1 : Int) := of_decide_eq_true (by first | (with_reducible assumption) | assumption); have q122 : x11_1 < (l0.length : Int) := of_decide_eq_true (by first | (with_reducible assumption) | assumption); obtain ⟨ad122, A122_5, c122_5, e122, hx122_0, hx122_1, hx122_2, hx122_3, hx122_4, hx122_5, hl122_5, hi122_5⟩ := at_T177 HR0.out x11_1 p122 q122; obtain rfl : ad120 = ad122 := (by injection e122); replace hx122_0 := (HB.out.cell (World.block_lt_of_cell? w _ hx122_0)).trans hx122_0; replace hx122_1 := (HB.out.cell (World.block_lt_of_cell? w _ hx122_1)).trans hx122_1; replace hx122_2 := (HB.out.cell (World.block_lt_of_cell? w _ hx122_2)).trans hx122_2; replace hx122_3 := (HB.out.cell (World.block_lt_of_cell? w _ hx122_3)).trans hx122_3; replace hx122_4 := (HB.out.cell (World.block_lt_of_cell? w _ hx122_4)).trans hx122_4; replace hx122_5 := (HB.out.cell (World.block_lt_of_cell? w _ hx122_5)).trans hx122_5; have HR122_5 := Aside0.mk hi122_5; have HC122_5 := Aside0.mk hl122_5; clear hi122_5 hl122_5; replace p122 := eq_true p122; replace q122 := eq_true q122; have ea_ := Option.some.inj (hx120_5.symm.trans hx122_5); injection ea_ with ea_ en_ ec_; subst ea_; subst ec_; clear en_) | (go_at_call 131; (with_reducible refine (spec_l19In.calls k1 _ _ ((rd_T177 l0 x11_1).f3) a2 t123 _ ?side1 ?side2 A15.out).mono ?_); (case side1 => repeat (first | exact (Kd.C_below HR122_5.out (by repeat (first | (with_reducible first | exact HB.out | apply below_alloc | apply pw_below_drewN | apply below_drew1) | exact HB.out))) | (with_reducible refine Kd.C_alloc ?_ _) | (with_reducible refine Kd.C_drewN ?_ _) | (with_reducible refine Kd.C_drew ?_))); (case side2 => exact HC122_5.out); rintro e w' ⟨rfl, ⟨nd, rfl⟩⟩))
                have H := HU16.out
                clear HU16
                by_cases c17 : t123 = true
                · subst c17
                  have H1 : (spec_Both.l0 k1 l0 a1 a2 a4 (wrap64 (x11_1 + 1))) = some r := by rw [if_pos rfl] at H; exact H
                  clear H
                  have H := H1
                  clear H1
                  have H' := Aside0.mk H
                  clear H
                  go_wp2
                  go_roundg k1
                  case measure => have := HK1.out; omega
                  case rel => exact ⟨(wrap64 (x11_1 + 1)), (by first | rfl | (simp; done) | (simp [*]; done)), H', ⟨by have := HK1.out; omega⟩, ⟨by repeat (first | (with_reducible first | exact HB.out | apply below_alloc | apply pw_below_drewN | apply below_drew1) | exact HB.out)⟩⟩
                · replace c17 := Bool.eq_false_iff.mpr c17
                  subst c17
                  have H1 : (some false) = some r := by rw [if_neg (show ¬ (false = true) by decide)] at H; exact H
                  clear H
                  have H := H1
                  clear H1
                  obtain rfl := Option.some.inj H
                  go_wp2
                  go_ret
                  exact ⟨by first | rfl | (simp [errW_none, errW_some] <;> rfl) | (simp [*, errW_none, errW_some] <;> rfl), by repeat (first | (with_reducible first | exact HB.out | apply below_alloc | apply pw_below_drewN | apply below_drew1) | exact HB.out)⟩
              · replace c14 := Bool.eq_false_iff.mpr c14
                subst c14
                have H1 : (some false) = some r := by rw [if_neg (show ¬ (false = true) by decide)] at H; exact H
                clear H
                have H := H1
                clear H1
                obtain rfl := Option.some.inj H
                have p120 : 0 ≤ (x11_1 : Int) := of_decide_eq_true (by first | (with_reducible assumption) | assumption)
                have q120 : x11_1 < (l0.length : Int) := of_decide_eq_true (by first | (with_reducible assumption) | assumption)
                obtain ⟨ad120, A120_5, c120_5, e120, hx120_0, hx120_1, hx120_2, hx120_3, hx120_4, hx120_5, hl120_5, hi120_5⟩ := at_T177 HR0.out x11_1 p120 q120
                cases e120
                replace hx120_0 := (HB.out.cell (World.block_lt_of_cell? w _ hx120_0)).trans hx120_0
                replace hx120_1 := (HB.out.cell (World.block_lt_of_cell? w _ hx120_1)).trans hx120_1
                replace hx120_2 := (HB.out.cell (World.block_lt_of_cell? w _ hx120_2)).trans hx120_2
                replace hx120_3 := (HB.out.cell (World.block_lt_of_cell? w _ hx120_3)).trans hx120_3
                replace hx120_4 := (HB.out.cell (World.block_lt_of_cell? w _ hx120_4)).trans hx120_4
                replace hx120_5 := (HB.out.cell (World.block_lt_of_cell? w _ hx120_5)).trans hx120_5
                have HR120_5 := Aside0.mk hi120_5
                have HC120_5 := Aside0.mk hl120_5
                clear hi120_5 hl120_5
                replace p120 := eq_true p120
                replace q120 := eq_true q120
                go_wp2_with (first | ((with_reducible refine gate_callee (f := 131) rfl ?_); refine goesL_ (some 29) rfl rfl Try.func131 (by kernel_rfl) rfl #[.slice A120_5 ((rd_T177 l0 x11_1).f3).length c120_5, .int .i64 a1] rfl (by (try simp only [List.map_toArray, List.map_cons, List.map_nil]); first | done | rfl | (simp only [List.length_drop, List.length_take]; rfl)) ?_; (with_reducible refine (spec_l19In.calls k1 _ _ ((rd_T177 l0 x11_1).f3) a1 false _ ?side1 ?side2 A13.out).mono ?_); (case side1 => repeat (first | exact (Kd.C_below HR120_5.out HB.out) | (with_reducible refine Kd.C_alloc ?_ _) | (with_reducible refine Kd.C_drewN ?_ _) | (with_reducible refine Kd.C_drew ?_))); (case side2 => exact HC120_5.out); rintro e w' ⟨rfl, ⟨nd, rfl⟩⟩; refine ⟨_, rfl, ?_⟩))
                go_ret
                exact ⟨by first | rfl | (simp [errW_none, errW_some] <;> rfl) | (simp [*, errW_none, errW_some] <;> rfl), by repeat (first | (with_reducible first | exact HB.out | apply below_alloc | apply pw_below_drewN | apply below_drew1) | exact HB.out)⟩
            · rw [if_neg c12] at H
              exact absurd H (by simp)
          · rw [if_neg c11] at H
            exact absurd H (by simp)
        · rw [if_neg c10] at H
          have c10b0 : decide (x11_1 < a4) = false := decide_eq_false c10
          clear c10
          (first | rw [c10b0] | (simp only [i64_w, i32_w]; rw [c10b0]) | skip)
          obtain rfl := Option.some.inj H
          go_wp2
          go_ret
          exact ⟨by first | rfl | (simp [errW_none, errW_some] <;> rfl) | (simp [*, errW_none, errW_some] <;> rfl), by repeat (first | (with_reducible first | exact HB.out | apply below_alloc | apply pw_below_drewN | apply below_drew1) | exact HB.out)⟩
  · replace c9 := Bool.eq_false_iff.mpr c9
    subst c9
    have H1 : (some false) = some r := by rw [if_neg (show ¬ (false = true) by decide)] at H; exact H
    clear H
    have H := H1
    clear H1
    obtain rfl := Option.some.inj H
    go_wp2
    go_ret
    exact ⟨by first | rfl | (simp [errW_none, errW_some] <;> rfl) | (simp [*, errW_none, errW_some] <;> rfl), by repeat (first | (with_reducible first | exact HB.out | apply below_alloc | apply pw_below_drewN | apply below_drew1) | exact HB.out)⟩

/-! ### spec_l19One: function 231 -/
def spec_l19One.l0 : Nat → List (S177) → Int → Option (Bool)
  | 0, _, _ => none
  | k + 1, x0, x3 => if x3 < (x0.length : Int) then (if 0 ≤ x3 then (if 0 < (x0.length : Int) then (if ((rd_T177 x0 x3).f1) = ((rd_T177 x0 0).f1) then (spec_l19One.l0 k x0 (wrap64 (x3 + 1))) else (some false)) else (none)) else (none)) else (some true)
def spec_l19One.f (k : Nat) (l0 : List (S177)) : Option (Bool) := spec_l19One.l0 k l0 0
set_option maxHeartbeats 8000000 in
set_option maxRecDepth 100000 in
theorem spec_l19One.calls (k : Nat) (A0 : Option Addr) (c0 : Nat) (l0 : List (S177)) (r : Bool) (w : World) (hr0 : Kd.C k177 w A0 l0.length l0) (hc0 : l0.length ≤ c0) (h : spec_l19One.f k l0 = some r) :
    Calls Try.prog 231 #[.slice A0 l0.length c0] w fun e w' => e = .returned (.bool r) ∧ Drawn0 w w' := by
  have HR0 := Aside0.mk hr0
  have HC0 := Aside0.mk hc0
  clear hr0 hc0
  have H : (spec_l19One.l0 k l0 0) = some r := h
  clear h
  have H' := Aside0.mk H
  clear H
  go_enter Try.func231, Try.ntmps231
  go_wp2
  repeat (go_quiet (fail); try go_wp2)
  go_loopg [3] k (fun kq v3 w' => ∃ (x3_1 : Int), v3 = .int .i64 x3_1 ∧ Aside0 (spec_l19One.l0 kq l0 x3_1 = some r) ∧ Aside0 (kq ≤ k) ∧ Drawn0 w w')
  case atStart => exact ⟨(0), (by first | rfl | (simp; done) | (simp [*]; done)), H', ⟨Nat.le_refl _⟩, by repeat (first | exact Drawn0.refl _ | apply Drawn0.step)⟩
  case round =>
    clear H'
    obtain ⟨x3_1, rfl, HA, HK1, ⟨m1, rfl⟩⟩ := hrel
    cases gk with
    | zero => exact absurd HA.out (by simp [spec_l19One.l0])
    | succ k1 =>
      have H := HA.out
      clear HA
      simp only [spec_l19One.l0] at H
      by_cases c2 : x3_1 < (l0.length : Int)
      · rw [if_pos c2] at H
        have c2b0 : decide (x3_1 < (l0.length : Int)) = true := decide_eq_true c2
        clear c2
        by_cases c3 : 0 ≤ x3_1
        · rw [if_pos c3] at H
          have c3b0 : decide (0 ≤ x3_1) = true := decide_eq_true c3
          clear c3
          by_cases c4 : 0 < (l0.length : Int)
          · rw [if_pos c4] at H
            have c4b0 : decide (0 < (l0.length : Int)) = true := decide_eq_true c4
            have c4b1 : decide (0 < l0.length) = true := decide_eq_true (by omega)
            clear c4
            have HU5 := Aside0.mk H
            clear H
            have p124 : 0 ≤ (x3_1 : Int) := of_decide_eq_true (by first | (with_reducible assumption) | assumption)
            have q124 : x3_1 < (l0.length : Int) := of_decide_eq_true (by first | (with_reducible assumption) | assumption)
            obtain ⟨ad124, A124_5, c124_5, e124, hx124_0, hx124_1, hx124_2, hx124_3, hx124_4, hx124_5, hl124_5, hi124_5⟩ := at_T177 HR0.out x3_1 p124 q124
            cases e124
            have HR124_5 := Aside0.mk hi124_5
            have HC124_5 := Aside0.mk hl124_5
            clear hi124_5 hl124_5
            replace p124 := eq_true p124
            replace q124 := eq_true q124
            have p125 : 0 ≤ (0 : Int) := (by omega)
            have q125 : 0 < (l0.length : Int) := of_decide_eq_true (by first | (with_reducible assumption) | assumption)
            obtain ⟨ad125, A125_5, c125_5, e125, hx125_0, hx125_1, hx125_2, hx125_3, hx125_4, hx125_5, hl125_5, hi125_5⟩ := at_T177 HR0.out 0 p125 q125
            obtain rfl : ad124 = ad125 := (by injection e125)
            have qi125 : (0 < l0.length) = True := eq_true (by omega)
            (try rw [show ((0 : Int)).toNat = 0 from rfl] at hx125_0)
            (try rw [show 0 * 6 = 0 from rfl] at hx125_0)
            (try rw [Addr.add_zero'] at hx125_0)
            (try rw [show ((0 : Int)).toNat = 0 from rfl] at hx125_1)
            (try rw [show 0 * 6 = 0 from rfl] at hx125_1)
            (try rw [Addr.add_zero'] at hx125_1)
            (try rw [show ((0 : Int)).toNat = 0 from rfl] at hx125_2)
            (try rw [show 0 * 6 = 0 from rfl] at hx125_2)
            (try rw [Addr.add_zero'] at hx125_2)
            (try rw [show ((0 : Int)).toNat = 0 from rfl] at hx125_3)
            (try rw [show 0 * 6 = 0 from rfl] at hx125_3)
            (try rw [Addr.add_zero'] at hx125_3)
            (try rw [show ((0 : Int)).toNat = 0 from rfl] at hx125_4)
            (try rw [show 0 * 6 = 0 from rfl] at hx125_4)
            (try rw [Addr.add_zero'] at hx125_4)
            (try rw [show ((0 : Int)).toNat = 0 from rfl] at hx125_5)
            (try rw [show 0 * 6 = 0 from rfl] at hx125_5)
            (try rw [Addr.add_zero'] at hx125_5)
            have HR125_5 := Aside0.mk hi125_5
            have HC125_5 := Aside0.mk hl125_5
            clear hi125_5 hl125_5
            replace p125 := eq_true p125
            replace q125 := eq_true q125
            go_upto_if 19 with (fail)
            repeat (go_quiet (fail); go_upto_if 19 with (fail))
            have H := HU5.out
            clear HU5
            by_cases c6 : ((rd_T177 l0 x3_1).f1) = ((rd_T177 l0 0).f1)
            · rw [if_pos c6] at H
              have c6b0 : (((rd_T177 l0 x3_1).f1) == ((rd_T177 l0 0).f1)) = true := beq_iff_eq.mpr c6
              have c6b1 : (((rd_T177 l0 x3_1).f1) != ((rd_T177 l0 0).f1)) = false := bne_eq_false_iff_eq.mpr c6
              clear c6
              (first | rw [c6b0] | (simp only [i64_w, i32_w]; rw [c6b0]) | skip)
              have H' := Aside0.mk H
              clear H
              go_wp2
              repeat (go_quiet (fail); try go_wp2)
              go_roundg k1
              case measure => have := HK1.out; omega
              case rel => exact ⟨(wrap64 (x3_1 + 1)), (by first | rfl | (simp; done) | (simp [*]; done)), H', ⟨by have := HK1.out; omega⟩, by repeat (first | exact Drawn0.refl _ | apply Drawn0.step)⟩
            · rw [if_neg c6] at H
              have c6b0 : (((rd_T177 l0 x3_1).f1) == ((rd_T177 l0 0).f1)) = false := beq_eq_false_iff_ne.mpr c6
              have c6b1 : (((rd_T177 l0 x3_1).f1) != ((rd_T177 l0 0).f1)) = true := bne_iff_ne.mpr c6
              (first | rw [c6b0] | (simp only [i64_w, i32_w]; rw [c6b0]) | skip)
              obtain rfl := Option.some.inj H
              go_wp2
              repeat (go_quiet (fail); try go_wp2)
              go_ret
              exact ⟨by first | rfl | (simp; done) | (simp [*]; done), by repeat (first | exact Drawn0.refl _ | apply Drawn0.step)⟩
          · rw [if_neg c4] at H
            exact absurd H (by simp)
        · rw [if_neg c3] at H
          exact absurd H (by simp)
      · rw [if_neg c2] at H
        have c2b0 : decide (x3_1 < (l0.length : Int)) = false := decide_eq_false c2
        clear c2
        obtain rfl := Option.some.inj H
        go_wp2
        repeat (go_quiet (fail); try go_wp2)
        go_ret
        exact ⟨by first | rfl | (simp; done) | (simp [*]; done), by repeat (first | exact Drawn0.refl _ | apply Drawn0.step)⟩

/-! ### spec_l13List: function 234 -/
def spec_l13List.f (a0_0 : Int) (a0_1 : Int) (a0_2 : Int) : Option (List Int) := some (([a0_0, a0_1, a0_2] : List Int))
set_option maxHeartbeats 8000000 in
set_option maxRecDepth 100000 in
theorem spec_l13List.calls (a0_0 : Int) (a0_1 : Int) (a0_2 : Int) (r : List Int) (w : World) (h : spec_l13List.f a0_0 a0_1 a0_2 = some r) :
    Calls Try.prog 234 #[.agg #[.int .i64 a0_0, .int .i64 a0_1, .int .i64 a0_2]] w fun e w' => ∃ v0_ : Value, e = .returned (v0_) ∧ Kd.R (Kd.int .i64) 3 w' w.heap.size (fun _ => True) v0_ r ∧ Below w.heap.size w w' := by
  have hu48 := Try.underlying48
  have HB := Aside0.mk (Below.refl w.heap.size w)
  have H : (some (([a0_0, a0_1, a0_2] : List Int))) = some r := h
  clear h
  obtain ⟨y127, hy127⟩ : ∃ y_ : List Int, y_ = (([a0_0, a0_1, a0_2] : List Int)) := ⟨_, rfl⟩
  replace H : (some y127) = some r := by first | (rw [hy127]; with_reducible exact H) | (have H2_ := (Option.bind_some _ _).symm.trans H; rw [hy127]; with_reducible exact H2_) | (have H2_ := (Option.bind_some _ _).symm.trans H; with_reducible exact H2_) | with_reducible exact H | (rw [hy127]; exact H) | exact H
  have Ny127 := Aside0.mk hy127
  clear hy127
  obtain rfl := Option.some.inj H
  go_enter Try.func234, Try.ntmps234
  go_wp2_with (first | ((with_reducible refine gate_dst (N := 1) rfl ?_); refine box_event ?hg (N := 1) ?hd (cs := #[.int .i64 a0_0, .int .i64 a0_1, .int .i64 a0_2]) (t := 48) ?hr ?_; (case hd => rfl); (case hg => rfl); (case hr => first | (go_simp; done) | (go_simp; rfl)); intro gb126 hg w2 hbox hb; have n0_ := Aside0.mk (below_step (by repeat (first | (with_reducible first | exact HB.out | apply below_alloc | apply pw_below_drewN | apply below_drew1) | exact HB.out)) hb); have n1_ := Aside0.mk (hbox); have n2_ := Aside0.mk ((by rw [hg]; exact (below_size (by repeat (first | (with_reducible first | exact HB.out | apply below_alloc | apply pw_below_drewN | apply below_drew1) | exact HB.out))) : w.heap.size ≤ gb126)); have n3_ := Aside0.mk ((by rw [hg]; exact (below_size (by repeat (first | (with_reducible first | exact HB.out | apply below_alloc | apply pw_below_drewN | apply below_drew1) | exact HB.out))) : w.heap.size ≤ gb126)); clear HB; have HB := n0_; have BK126 := n1_; have GW126 := n2_; have GE126 := n3_; clear n0_ n1_ n2_ n3_; clear hb hbox hg; have hcz3_0 : w2.cell? ⟨gb126, 0, none⟩ = some (.int .i64 a0_0) := (blk_cell BK126.out 0).trans rfl; have hcz3_1 : w2.cell? ⟨gb126, 1, none⟩ = some (.int .i64 a0_1) := (blk_cell BK126.out 1).trans rfl; have hcz3_2 : w2.cell? ⟨gb126, 2, none⟩ = some (.int .i64 a0_2) := (blk_cell BK126.out 2).trans rfl; have hfz3_0 := blk_frozen BK126.out 0; have hfz3_1 := blk_frozen BK126.out 1; have hfz3_2 := blk_frozen BK126.out 2) | ((with_reducible refine gate_dst (N := 9) rfl ?_); refine Kd.R_lit (Kd.int .i64) _ 3 ?hg (N := 9) ?hd (xs := ([a0_0, a0_1, a0_2] : List Int)) (inner := [.int .i64 a0_0, .int .i64 a0_1, .int .i64 a0_2]) (ok := fun _ => True) (okp := fun _ => True) ?hr ?hp (fun _ hk => hk) trivial (Below.refl _ _) (Nat.le_refl _) (by simp) ?_; (case hd => rfl); (case hg => rfl); (case hr => first | (go_simp; done) | (go_simp; rfl)); (case hp => exact (Reps.one (show Kd.M (Kd.int .i64) _ _ _ a0_0 [.int .i64 a0_0] from rfl) (Reps.one (show Kd.M (Kd.int .i64) _ _ _ a0_1 [.int .i64 a0_1] from rfl) (Reps.one (show Kd.M (Kd.int .i64) _ _ _ a0_2 [.int .i64 a0_2] from rfl) (Reps.none _ _))))); intro v128 w4 ho5 hb hg_ hnew_; clear hg_ hnew_; (first | rw [← Ny127.out] at ho5 | (simp only [Int.reduceToNat] at ho5; rw [← Ny127.out] at ho5)); have n0_ := Aside0.mk (Kd.R_lower ho5 (below_size (by repeat (first | (with_reducible first | exact HB.out | apply below_alloc | apply pw_below_drewN | apply below_drew1 | refine below_set ?_ GE126.out) | exact HB.out)))); have n1_ := Aside0.mk (blk_below (g := gb126) (o := .cells #[.int .i64 a0_0, .int .i64 a0_1, .int .i64 a0_2] 48 (0, 0)) (by (with_reducible repeat (first | refine blk_drewN ?_ _ | refine blk_drew ?_ | refine blk_alloc ?_ _)); exact BK126.out) hb); have n2_ := Aside0.mk (below_step (by repeat (first | (with_reducible first | exact HB.out | apply below_alloc | apply pw_below_drewN | apply below_drew1 | refine below_set ?_ GE126.out) | exact HB.out)) hb); clear BK126; clear HB; have HO129 := n0_; have BK126 := n1_; have HB := n2_; clear n0_ n1_ n2_; clear hb ho5))
  go_ret
  exact ⟨_, by first | rfl | (simp [errW_none, errW_some] <;> rfl) | (simp [*, errW_none, errW_some] <;> rfl), by (with_reducible repeat (first | apply Kd.R_alloc | apply Kd.R_drewN | apply Kd.R_drew)); exact HO129.out, by repeat (first | (with_reducible first | exact HB.out | apply below_alloc | apply pw_below_drewN | apply below_drew1 | refine below_set ?_ GE126.out) | exact HB.out)⟩

/-! ### spec_VecTop: function 249 -/
def spec_VecTop.f (a0_0 : Int) (a0_1 : Int) (a0_2 : Int) : Option (Int) := some (mx (mx a0_0 a0_1) a0_2)
set_option maxHeartbeats 8000000 in
set_option maxRecDepth 100000 in
theorem spec_VecTop.calls (a0_0 : Int) (a0_1 : Int) (a0_2 : Int) (r : Int) (w : World) (h : spec_VecTop.f a0_0 a0_1 a0_2 = some r) :
    Calls Try.prog 249 #[.agg #[.int .i64 a0_0, .int .i64 a0_1, .int .i64 a0_2]] w fun e w' => e = .returned (.int .i64 r) ∧ Below w.heap.size w w' := by
  have hu48 := Try.underlying48
  have HB := Aside0.mk (Below.refl w.heap.size w)
  have H : (some (mx (mx a0_0 a0_1) a0_2)) = some r := h
  clear h
  obtain ⟨ji2, hji2⟩ : ∃ j_ : Int, (mx a0_0 a0_1) = j_ := ⟨_, rfl⟩
  replace H : (some (mx (ji2) a0_2)) = some r := by first | (rw [hji2] at H; exact H) | (simp only [hji2] at H ⊢; exact H)
  have hji2_ : (if a0_0 < a0_1 then a0_1 else a0_0) = ji2 := hji2
  obtain ⟨ji3, hji3⟩ : ∃ j_ : Int, (mx (ji2) a0_2) = j_ := ⟨_, rfl⟩
  replace H : (some ji3) = some r := by first | (rw [hji3] at H; exact H) | (simp only [hji3] at H ⊢; exact H)
  have hji3_ : (if (ji2) < a0_2 then a0_2 else (ji2)) = ji3 := hji3
  obtain rfl := Option.some.inj H
  go_enter Try.func249, Try.ntmps249
  go_wp2_with (first | ((with_reducible refine gate_dst (N := 1) rfl ?_); refine box_event ?hg (N := 1) ?hd (cs := #[.int .i64 a0_0, .int .i64 a0_1, .int .i64 a0_2]) (t := 48) ?hr ?_; (case hd => rfl); (case hg => rfl); (case hr => first | (go_simp; done) | (go_simp; rfl)); intro gb130 hg w4 hbox hb; have n0_ := Aside0.mk (below_step (by repeat (first | (with_reducible first | exact HB.out | apply below_alloc | apply pw_below_drewN | apply below_drew1) | exact HB.out)) hb); have n1_ := Aside0.mk (hbox); have n2_ := Aside0.mk ((by rw [hg]; exact (below_size (by repeat (first | (with_reducible first | exact HB.out | apply below_alloc | apply pw_below_drewN | apply below_drew1) | exact HB.out))) : w.heap.size ≤ gb130)); have n3_ := Aside0.mk ((by rw [hg]; exact (below_size (by repeat (first | (with_reducible first | exact HB.out | apply below_alloc | apply pw_below_drewN | apply below_drew1) | exact HB.out))) : w.heap.size ≤ gb130)); clear HB; have HB := n0_; have BK130 := n1_; have GW130 := n2_; have GE130 := n3_; clear n0_ n1_ n2_ n3_; clear hb hbox hg; have hcz5_0 : w4.cell? ⟨gb130, 0, none⟩ = some (.int .i64 a0_0) := (blk_cell BK130.out 0).trans rfl; have hcz5_1 : w4.cell? ⟨gb130, 1, none⟩ = some (.int .i64 a0_1) := (blk_cell BK130.out 1).trans rfl; have hcz5_2 : w4.cell? ⟨gb130, 2, none⟩ = some (.int .i64 a0_2) := (blk_cell BK130.out 2).trans rfl; have hfz5_0 := blk_frozen BK130.out 0; have hfz5_1 := blk_frozen BK130.out 1; have hfz5_2 := blk_frozen BK130.out 2))
  go_ret
  exact ⟨by first | rfl | (simp [errW_none, errW_some] <;> rfl) | (simp only [← hji2, ← hji3]; first | rfl | (simp [errW_none, errW_some] <;> rfl)) | (simp [*, errW_none, errW_some] <;> rfl), by repeat (first | (with_reducible first | exact HB.out | apply below_alloc | apply pw_below_drewN | apply below_drew1 | refine below_set ?_ GE130.out) | exact HB.out)⟩

/-! ### spec_l19Mains: function 232 -/
mutual
def spec_l19Mains.l0 : Nat → List (S177) → List Int → Int → Option (List Int)
  | 0, _, _, _ => none
  | k + 1, x0, x3, x4 => if x4 < 3 then (spec_l19Mains.j1 k x0 x3 x4 (decide ((x0.length : Int) > 0))) else (spec_l19Mains.j1 k x0 x3 x4 false)
def spec_l19Mains.j1 : Nat → List (S177) → List Int → Int → Bool → Option (List Int)
  | 0, _, _, _, _ => none
  | k + 1, x0, x3, x4, x14 => if x14 = true then (spec_l19Mains.l1 k x0 x3 x4 true 0) else (some x3)
def spec_l19Mains.l1 : Nat → List (S177) → List Int → Int → Bool → Int → Option (List Int)
  | 0, _, _, _, _, _ => none
  | k + 1, x0, x3, x4, x5, x6 => if x6 < (x0.length : Int) then (if x5 = true then (if 0 ≤ x6 then ((spec_l13List.f ((rd_T177 x0 x6).f2.f0) ((rd_T177 x0 x6).f2.f1) ((rd_T177 x0 x6).f2.f2)).bind fun t135 => (if 0 ≤ x4 then (if x4 < (t135.length : Int) then ((spec_VecTop.f ((rd_T177 x0 x6).f2.f0) ((rd_T177 x0 x6).f2.f1) ((rd_T177 x0 x6).f2.f2)).bind fun t140 => (spec_l19Mains.l1 k x0 x3 x4 ((rd t135 x4) == t140) (wrap64 (x6 + 1)))) else (none)) else (none))) else (none)) else (spec_l19Mains.l1 k x0 x3 x4 false (wrap64 (x6 + 1)))) else (if x5 = true then (if x3.length < 17592186044416 then (spec_l19Mains.l0 k x0 (x3 ++ [x4]) (wrap64 (x4 + 1))) else (none)) else (spec_l19Mains.l0 k x0 x3 (wrap64 (x4 + 1))))
end
def spec_l19Mains.f (k : Nat) (l0 : List (S177)) : Option (List Int) := spec_l19Mains.l0 k l0 (([] : List Int)) 0
def spec_l19Mains.T9 : Bool × List (List Nat × List Nat) := (true, [([], []), ([0], [0]), ([1], [1]), ([1], [1]), ([2, 3, 1], [1, 2, 3]), ([4, 1], [1, 4]), ([5, 1], [1, 5]), ([6, 1, 1], [1, 6]), ([1], [1]), ([7, 8, 1], [1, 7, 8]), ([9, 1], [1, 9]), ([1], [1]), ([1], [1]), ([11, 12, 1], [1, 11, 12]), ([13, 1], [1, 13]), ([14, 1], [1, 14]), ([15, 7, 1], [1, 15]), ([10, 16, 1], [1, 10, 16]), ([1, 17], [1, 17]), ([18, 16, 0, 1, 2, 3, 4, 5, 6, 7, 8, 9, 10, 11, 12, 13, 14, 15, 16, 17, 18], [0, 18])])
def spec_l19Mains.B9 : List Nat := [0, 1, 3, 3, 15, 31, 63, 127, 3, 511, 1023, 3, 3, 6147, 14339, 30723, 63743, 131071, 262143, 524287]
theorem spec_l19Mains.tab9 : rtab .any (opsOf Try.f232 9) = spec_l19Mains.T9 := by kernel_rfl
theorem spec_l19Mains.bits9 : waitsOk spec_l19Mains.T9.2 spec_l19Mains.B9 = true := by kernel_rfl
set_option maxHeartbeats 8000000 in
set_option maxRecDepth 100000 in
theorem spec_l19Mains.calls (k : Nat) (A0 : Option Addr) (c0 : Nat) (l0 : List (S177)) (r : List Int) (w : World) (hr0 : Kd.C k177 w A0 l0.length l0) (hc0 : l0.length ≤ c0) (h : spec_l19Mains.f k l0 = some r) :
    Calls Try.prog 232 #[.slice A0 l0.length c0] w fun e w' => ∃ v0_ : Value, e = .returned (v0_) ∧ Kd.R (Kd.int .i64) 3 w' w.heap.size (fun _ => True) v0_ r ∧ Below w.heap.size w w' := by
  have hu48 := Try.underlying48
  have HR0 := Aside0.mk hr0
  have HC0 := Aside0.mk hc0
  clear hr0 hc0
  have HB := Aside0.mk (Below.refl w.heap.size w)
  have H : (spec_l19Mains.l0 k l0 (([] : List Int)) 0) = some r := h
  clear h
  obtain ⟨y131, hy131⟩ : ∃ y_ : List Int, y_ = (([] : List Int)) := ⟨_, rfl⟩
  replace H : (spec_l19Mains.l0 k l0 y131 0) = some r := by first | (rw [hy131]; with_reducible exact H) | (have H2_ := (Option.bind_some _ _).symm.trans H; rw [hy131]; with_reducible exact H2_) | (have H2_ := (Option.bind_some _ _).symm.trans H; with_reducible exact H2_) | with_reducible exact H | (rw [hy131]; exact H) | exact H
  have Ny131 := Aside0.mk hy131
  clear hy131
  have H' := Aside0.mk H
  clear H
  go_enter Try.func232, Try.ntmps232
  go_wp2_with (first | ((with_reducible refine gate_dst (N := 7) rfl ?_); (try (refine gate_guard (by rfl) ?_; dsimp only)); refine Kd.R_lit (Kd.int .i64) _ 3 ?hg (N := 7) ?hd (xs := ([] : List Int)) (inner := []) (ok := fun _ => True) (okp := fun _ => True) ?hr ?hp (fun _ hk => hk) trivial (Below.refl _ _) (Nat.le_refl _) (by simp) ?_; (case hd => rfl); (case hg => rfl); (case hr => first | (go_simp; done) | (go_simp; rfl)); (case hp => exact (Reps.none _ _)); intro v132 w2 ho3 hb hg_ hnew_; clear hg_ hnew_; (first | rw [← Ny131.out] at ho3 | (simp only [Int.reduceToNat] at ho3; rw [← Ny131.out] at ho3)); have n0_ := Aside0.mk (Kd.R_lower ho3 (below_size (by repeat (first | (with_reducible first | exact HB.out | apply below_alloc | apply pw_below_drewN | apply below_drew1) | exact HB.out)))); have n1_ := Aside0.mk (below_step (by repeat (first | (with_reducible first | exact HB.out | apply below_alloc | apply pw_below_drewN | apply below_drew1) | exact HB.out)) hb); clear HB; have HO133 := n0_; have HB := n1_; clear n0_ n1_; clear hb ho3))
  go_loopg [3, 4] k (fun kq v3 v4 w' => ∃ (x3_1 : List Int) (x4_1 : Int), v4 = .int .i64 x4_1 ∧ Aside0 (spec_l19Mains.l0 kq l0 x3_1 x4_1 = some r) ∧ Aside0 (kq ≤ k) ∧ Aside0 (Kd.R (Kd.int .i64) 3 w' w.heap.size (fun _ => True) v3 x3_1) ∧ Aside0 (Below w.heap.size w w'))
  case atStart => exact ⟨(y131), (0), (by first | rfl | (simp; done) | (simp [*]; done)), H', ⟨Nat.le_refl _⟩, ⟨by (with_reducible repeat (first | apply Kd.R_alloc | apply Kd.R_drewN | apply Kd.R_drew)); exact HO133.out⟩, ⟨by repeat (first | (with_reducible first | exact HB.out | apply below_alloc | apply pw_below_drewN | apply below_drew1) | exact HB.out)⟩⟩
  case round =>
    clear H'
    try clear c2
    try clear p2
    obtain ⟨x3_1, x4_1, rfl, HA, HK1, HO_3, HB⟩ := hrel
    cases gk with
    | zero => exact absurd HA.out (by simp [spec_l19Mains.l0])
    | succ k1 =>
      have H := HA.out
      clear HA
      simp only [spec_l19Mains.l0] at H
      have HC4 := Aside0.mk H
      clear H
      go_upto_region 3 with (fail)
      go_cut [14] (fun v14 wc => ∃ (kq : Nat) (x14_3 : Bool), v14 = .bool x14_3 ∧ Aside0 (spec_l19Mains.j1 kq l0 x3_1 x4_1 x14_3 = some r) ∧ Aside0 (kq ≤ k1) ∧ Aside0 (Kd.R (Kd.int .i64) 3 wc w.heap.size (fun _ => True) u3 x3_1) ∧ Aside0 (Below w.heap.size w wc))
      case first =>
        have H := HC4.out
        clear HC4
        by_cases c5 : x4_1 < 3
        · rw [if_pos c5] at H
          have c5b0 : decide (x4_1 < 3) = true := decide_eq_true c5
          clear c5
          (first | rw [c5b0] | (simp only [i64_w, i32_w]; rw [c5b0]) | skip)
          have H' := Aside0.mk H
          clear H
          go_wp2
          go_meet
          case rel => exact ⟨_, (decide ((l0.length : Int) > 0)), (by first | rfl | (simp; done) | (simp [*]; done)), H', ⟨by have := HK1.out; first | omega | exact Nat.le_refl _⟩, ⟨by (with_reducible repeat (first | apply Kd.R_alloc | apply Kd.R_drewN | apply Kd.R_drew)); exact HO_3.out⟩, ⟨by repeat (first | (with_reducible first | exact HB.out | apply below_alloc | apply pw_below_drewN | apply below_drew1) | exact HB.out)⟩⟩
        · rw [if_neg c5] at H
          have c5b0 : decide (x4_1 < 3) = false := decide_eq_false c5
          clear c5
          (first | rw [c5b0] | (simp only [i64_w, i32_w]; rw [c5b0]) | skip)
          have H' := Aside0.mk H
          clear H
          go_wp2
          go_meet
          case rel => exact ⟨_, (false), (by first | rfl | (simp; done) | (simp [*]; done)), H', ⟨by have := HK1.out; first | omega | exact Nat.le_refl _⟩, ⟨by (with_reducible repeat (first | apply Kd.R_alloc | apply Kd.R_drewN | apply Kd.R_drew)); exact HO_3.out⟩, ⟨by repeat (first | (with_reducible first | exact HB.out | apply below_alloc | apply pw_below_drewN | apply below_drew1) | exact HB.out)⟩⟩
      case rest =>
        clear HC4
        try clear c2
        try clear p2
        try clear c5
        try clear c5b0
        try clear p2
        obtain ⟨kq, x14_3, rfl, HA, HJ3, HO_3, HB⟩ := hcut
        cases kq with
        | zero => exact absurd HA.out (by simp [spec_l19Mains.j1])
        | succ kj3 =>
          have H := HA.out
          clear HA
          simp only [spec_l19Mains.j1] at H
          by_cases c6 : x14_3 = true
          · subst c6
            have H1 : (spec_l19Mains.l1 kj3 l0 x3_1 x4_1 true 0) = some r := by rw [if_pos rfl] at H; exact H
            clear H
            have H := H1
            clear H1
            have H' := Aside0.mk H
            clear H
            go_wp2
            go_loopg [5, 6] kj3 (fun kq v5 v6 w' => ∃ (x5_3 : Bool) (x6_3 : Int), v5 = .bool x5_3 ∧ v6 = .int .i64 x6_3 ∧ Aside0 (spec_l19Mains.l1 kq l0 x3_1 x4_1 x5_3 x6_3 = some r) ∧ Aside0 (kq ≤ kj3) ∧ Aside0 (Kd.R (Kd.int .i64) 3 w' w.heap.size (fun _ => True) u3 x3_1) ∧ Aside0 (Below w.heap.size w w'))
            case atStart => exact ⟨(true), (0), (by first | rfl | (simp; done) | (simp [*]; done)), (by first | rfl | (simp; done) | (simp [*]; done)), H', ⟨Nat.le_refl _⟩, ⟨by (with_reducible repeat (first | apply Kd.R_alloc | apply Kd.R_drewN | apply Kd.R_drew)); exact HO_3.out⟩, ⟨by repeat (first | (with_reducible first | exact HB.out | apply below_alloc | apply pw_below_drewN | apply below_drew1) | exact HB.out)⟩⟩
            case round =>
              clear H'
              try clear c2
              try clear p2
              try clear c5
              try clear c5b0
              try clear c6
              try clear p2
              obtain ⟨x5_3, x6_3, rfl, rfl, HA, HK3, HO_3, HB⟩ := hrel
              cases gk with
              | zero => exact absurd HA.out (by simp [spec_l19Mains.l1])
              | succ k3 =>
                have H := HA.out
                clear HA
                simp only [spec_l19Mains.l1] at H
                by_cases c7 : x6_3 < (l0.length : Int)
                · rw [if_pos c7] at H
                  have c7b0 : decide (x6_3 < (l0.length : Int)) = true := decide_eq_true c7
                  clear c7
                  by_cases c8 : x5_3 = true
                  · subst c8
                    have H1 : (if 0 ≤ x6_3 then ((spec_l13List.f ((rd_T177 l0 x6_3).f2.f0) ((rd_T177 l0 x6_3).f2.f1) ((rd_T177 l0 x6_3).f2.f2)).bind fun t135 => (if 0 ≤ x4_1 then (if x4_1 < (t135.length : Int) then ((spec_VecTop.f ((rd_T177 l0 x6_3).f2.f0) ((rd_T177 l0 x6_3).f2.f1) ((rd_T177 l0 x6_3).f2.f2)).bind fun t140 => (spec_l19Mains.l1 k3 l0 x3_1 x4_1 ((rd t135 x4_1) == t140) (wrap64 (x6_3 + 1)))) else (none)) else (none))) else (none)) = some r := by rw [if_pos rfl] at H; exact H
                    clear H
                    have H := H1
                    clear H1
                    by_cases c9 : 0 ≤ x6_3
                    · rw [if_pos c9] at H
                      have c9b0 : decide (0 ≤ x6_3) = true := decide_eq_true c9
                      clear c9
                      replace H := Option.bind_eq_some_iff.mp H
                      obtain ⟨t135, A100, H⟩ := H
                      replace H : (if 0 ≤ x4_1 then (if x4_1 < (t135.length : Int) then ((spec_VecTop.f ((rd_T177 l0 x6_3).f2.f0) ((rd_T177 l0 x6_3).f2.f1) ((rd_T177 l0 x6_3).f2.f2)).bind fun t140 => (spec_l19Mains.l1 k3 l0 x3_1 x4_1 ((rd t135 x4_1) == t140) (wrap64 (x6_3 + 1)))) else (none)) else (none)) = some r := H
                      have A10 := Aside0.mk A100
                      clear A100
                      by_cases c11 : 0 ≤ x4_1
                      · rw [if_pos c11] at H
                        have c11b0 : decide (0 ≤ x4_1) = true := decide_eq_true c11
                        clear c11
                        by_cases c12 : x4_1 < (t135.length : Int)
                        · rw [if_pos c12] at H
                          have c12b0 : decide (x4_1 < (t135.length : Int)) = true := decide_eq_true c12
                          clear c12
                          replace H := Option.bind_eq_some_iff.mp H
                          obtain ⟨t140, A130, H⟩ := H
                          replace H : (spec_l19Mains.l1 k3 l0 x3_1 x4_1 ((rd t135 x4_1) == t140) (wrap64 (x6_3 + 1))) = some r := H
                          have A13 := Aside0.mk A130
                          clear A130
                          have H' := Aside0.mk H
                          clear H
                          try go_wp2
                          have n0_ := Aside0.mk (Kd.R_drew HO_3.out)
                          have n1_ := Aside0.mk (below_drew1 HB.out)
                          clear HO_3
                          clear HB
                          have HO_3 := n0_
                          have HB := n1_
                          clear n0_ n1_
                          have p134 : 0 ≤ (x6_3 : Int) := of_decide_eq_true (by first | (with_reducible assumption) | assumption)
                          have q134 : x6_3 < (l0.length : Int) := of_decide_eq_true (by first | (with_reducible assumption) | assumption)
                          obtain ⟨ad134, A134_5, c134_5, e134, hx134_0, hx134_1, hx134_2, hx134_3, hx134_4, hx134_5, hl134_5, hi134_5⟩ := at_T177 HR0.out x6_3 p134 q134
                          have hw134_5 := hx134_5
                          have hw134_4 := hx134_4
                          have hw134_3 := hx134_3
                          have hw134_2 := hx134_2
                          have hw134_1 := hx134_1
                          have hw134_0 := hx134_0
                          cases e134
                          replace hx134_0 := (HB.out.cell (World.block_lt_of_cell? w _ hx134_0)).trans hx134_0
                          replace hx134_1 := (HB.out.cell (World.block_lt_of_cell? w _ hx134_1)).trans hx134_1
                          replace hx134_2 := (HB.out.cell (World.block_lt_of_cell? w _ hx134_2)).trans hx134_2
                          replace hx134_3 := (HB.out.cell (World.block_lt_of_cell? w _ hx134_3)).trans hx134_3
                          replace hx134_4 := (HB.out.cell (World.block_lt_of_cell? w _ hx134_4)).trans hx134_4
                          replace hx134_5 := (HB.out.cell (World.block_lt_of_cell? w _ hx134_5)).trans hx134_5
                          have HR134_5 := Aside0.mk hi134_5
                          have HC134_5 := Aside0.mk hl134_5
                          clear hi134_5 hl134_5
                          replace p134 := eq_true p134
                          replace q134 := eq_true q134
                          have p139 : 0 ≤ (x6_3 : Int) := of_decide_eq_true (by first | (with_reducible assumption) | assumption)
                          have q139 : x6_3 < (l0.length : Int) := of_decide_eq_true (by first | (with_reducible assumption) | assumption)
                          obtain ⟨ad139, A139_5, c139_5, e139, hx139_0, hx139_1, hx139_2, hx139_3, hx139_4, hx139_5, hl139_5, hi139_5⟩ := at_T177 HR0.out x6_3 p139 q139
                          have hw139_5 := hx139_5
                          have hw139_4 := hx139_4
                          have hw139_3 := hx139_3
                          have hw139_2 := hx139_2
                          have hw139_1 := hx139_1
                          have hw139_0 := hx139_0
                          obtain rfl : ad134 = ad139 := (by injection e139)
                          replace hx139_0 := (HB.out.cell (World.block_lt_of_cell? w _ hx139_0)).trans hx139_0
                          replace hx139_1 := (HB.out.cell (World.block_lt_of_cell? w _ hx139_1)).trans hx139_1
                          replace hx139_2 := (HB.out.cell (World.block_lt_of_cell? w _ hx139_2)).trans hx139_2
                          replace hx139_3 := (HB.out.cell (World.block_lt_of_cell? w _ hx139_3)).trans hx139_3
                          replace hx139_4 := (HB.out.cell (World.block_lt_of_cell? w _ hx139_4)).trans hx139_4
                          replace hx139_5 := (HB.out.cell (World.block_lt_of_cell? w _ hx139_5)).trans hx139_5
                          have HR139_5 := Aside0.mk hi139_5
                          have HC139_5 := Aside0.mk hl139_5
                          clear hi139_5 hl139_5
                          replace p139 := eq_true p139
                          replace q139 := eq_true q139
                          have ea_ := Option.some.inj (hx134_5.symm.trans hx139_5)
                          injection ea_ with ea_ en_ ec_
                          subst ea_
                          subst ec_
                          clear en_
                          refine start_ (n := 20) (S := fun w' => w'.cell? (ad134.add ((x6_3).toNat * 6)) = some (.int .i64 ((rd_T177 l0 x6_3).f0)) ∧ w'.cell? ⟨(ad134.add ((x6_3).toNat * 6)).block, (ad134.add ((x6_3).toNat * 6)).off + 1, none⟩ = some (.int .i64 ((rd_T177 l0 x6_3).f1)) ∧ w'.cell? ⟨(ad134.add ((x6_3).toNat * 6)).block, (ad134.add ((x6_3).toNat * 6)).off + 2, none⟩ = some (.int .i64 ((rd_T177 l0 x6_3).f2.f0)) ∧ w'.cell? ⟨(ad134.add ((x6_3).toNat * 6)).block, (ad134.add ((x6_3).toNat * 6)).off + 3, none⟩ = some (.int .i64 ((rd_T177 l0 x6_3).f2.f1)) ∧ w'.cell? ⟨(ad134.add ((x6_3).toNat * 6)).block, (ad134.add ((x6_3).toNat * 6)).off + 4, none⟩ = some (.int .i64 ((rd_T177 l0 x6_3).f2.f2)) ∧ w'.cell? ⟨(ad134.add ((x6_3).toNat * 6)).block, (ad134.add ((x6_3).toNat * 6)).off + 5, none⟩ = some (.slice A134_5 ((rd_T177 l0 x6_3).f3).length c134_5) ∧ w'.cell? (ad134.add ((x6_3).toNat * 6)) = some (.int .i64 ((rd_T177 l0 x6_3).f0)) ∧ w'.cell? ⟨(ad134.add ((x6_3).toNat * 6)).block, (ad134.add ((x6_3).toNat * 6)).off + 1, none⟩ = some (.int .i64 ((rd_T177 l0 x6_3).f1)) ∧ w'.cell? ⟨(ad134.add ((x6_3).toNat * 6)).block, (ad134.add ((x6_3).toNat * 6)).off + 2, none⟩ = some (.int .i64 ((rd_T177 l0 x6_3).f2.f0)) ∧ w'.cell? ⟨(ad134.add ((x6_3).toNat * 6)).block, (ad134.add ((x6_3).toNat * 6)).off + 3, none⟩ = some (.int .i64 ((rd_T177 l0 x6_3).f2.f1)) ∧ w'.cell? ⟨(ad134.add ((x6_3).toNat * 6)).block, (ad134.add ((x6_3).toNat * 6)).off + 4, none⟩ = some (.int .i64 ((rd_T177 l0 x6_3).f2.f2)) ∧ w'.cell? ⟨(ad134.add ((x6_3).toNat * 6)).block, (ad134.add ((x6_3).toNat * 6)).off + 5, none⟩ = some (.slice A134_5 ((rd_T177 l0 x6_3).f3).length c134_5) ∧ True) (ds := []) (bz 20 0) (by kernel_rfl) rfl (by kernel_rfl) ⟨((HB.out.cell (World.block_lt_of_cell? w _ hw134_0)).trans hw134_0), ((HB.out.cell (World.block_lt_of_cell? w _ hw134_1)).trans hw134_1), ((HB.out.cell (World.block_lt_of_cell? w _ hw134_2)).trans hw134_2), ((HB.out.cell (World.block_lt_of_cell? w _ hw134_3)).trans hw134_3), ((HB.out.cell (World.block_lt_of_cell? w _ hw134_4)).trans hw134_4), ((HB.out.cell (World.block_lt_of_cell? w _ hw134_5)).trans hw134_5), ((HB.out.cell (World.block_lt_of_cell? w _ hw139_0)).trans hw139_0), ((HB.out.cell (World.block_lt_of_cell? w _ hw139_1)).trans hw139_1), ((HB.out.cell (World.block_lt_of_cell? w _ hw139_2)).trans hw139_2), ((HB.out.cell (World.block_lt_of_cell? w _ hw139_3)).trans hw139_3), ((HB.out.cell (World.block_lt_of_cell? w _ hw139_4)).trans hw139_4), ((HB.out.cell (World.block_lt_of_cell? w _ hw139_5)).trans hw139_5), trivial⟩ (fun hHeld => ?_); refine with_tabW spec_l19Mains.tab9 spec_l19Mains.bits9 (fun HT_ HW_ => ?_)
                          generalize wr.drew = w14 at HO_3 HB HR134_5 HR139_5 hx134_0 hx134_1 hx134_2 hx134_3 hx134_4 hx134_5 hx139_0 hx139_1 hx139_2 hx139_3 hx139_4 hx139_5 hHeld ⊢
                          refine px_ (i := 0) (N := some 23) (bz 20 1) (any_of HT_.out (by kernel_rfl)) ?_
                          refine px_ (i := 1) (N := some 24) (bz 20 3) (any_of HT_.out (by kernel_rfl)) ?_
                          refine px_ (i := 2) (N := some 25) (bz 20 7) (any_of HT_.out (by kernel_rfl)) ?_
                          refine px_ (i := 3) (N := some 26) (bz 20 15) (any_of HT_.out (by kernel_rfl)) ?_
                          refine px_ (i := 4) (N := some 27) (bz 20 31) (any_of HT_.out (by kernel_rfl)) ?_
                          refine px_ (i := 5) (N := some 28) (bz 20 63) (any_of HT_.out (by kernel_rfl)) ?_
                          refine px_ (i := 8) (N := some 31) (bz 20 319) (any_of HT_.out (by kernel_rfl)) ?_
                          refine px_ (i := 11) (N := some 34) (bz 20 2367) (any_of HT_.out (by kernel_rfl)) ?_
                          refine px_ (i := 12) (N := some 35) (bz 20 6463) (any_of HT_.out (by kernel_rfl)) ?_
                          refine px_ (i := 13) (N := some 36) (bz 20 14655) (any_of HT_.out (by kernel_rfl)) ?_
                          refine px_ (i := 14) (N := some 37) (bz 20 31039) (any_of HT_.out (by kernel_rfl)) ?_
                          refine tx_ (i := 6) (N := some 29) (bz 20 31103) rfl rfl (take_ofW HT_.out HW_.out (by kernel_rfl)) hHeld (by rintro w' ⟨s0, s1, s2, s3, s4, s5, s6, s7, s8, s9, s10, s11, s12⟩; go_simp; with_reducible rfl) ?_
                          refine tx_ (i := 15) (N := some 38) (bz 20 63871) rfl rfl (take_ofW HT_.out HW_.out (by kernel_rfl)) hHeld (by rintro w' ⟨s0, s1, s2, s3, s4, s5, s6, s7, s8, s9, s10, s11, s12⟩; go_simp; with_reducible rfl) ?_
                          refine one_ (i := 7) (N := some 30) (bz 20 63999) rfl rfl (one_of HT_.out (by kernel_rfl)) (by decide) (fun K hK => ?_)
                          refine goes_ Try.func234 (by kernel_rfl) rfl #[.agg #[.int .i64 ((rd_T177 l0 x6_3).f2.f0), .int .i64 ((rd_T177 l0 x6_3).f2.f1), .int .i64 ((rd_T177 l0 x6_3).f2.f2)]] (by rfl) rfl rfl (by (try simp only [List.map_toArray, List.map_cons, List.map_nil]); first | done | rfl | (simp only [List.length_drop, List.length_take]; rfl)) ?_
                          with_reducible refine (spec_l13List.calls ((rd_T177 l0 x6_3).f2.f0) ((rd_T177 l0 x6_3).f2.f1) ((rd_T177 l0 x6_3).f2.f2) t135 _ A10.out).mono ?_
                          rintro e w15 ⟨v136, rfl, ho0, hb⟩
                          refine ⟨_, rfl, ?_⟩
                          have n0_ := Aside0.mk (Kd.R_elder' (by (with_reducible repeat (first | apply Kd.R_alloc | apply Kd.R_drewN | apply Kd.R_drew)); exact HO_3.out) (Kd.R_base ho0) hb)
                          have n1_ := Aside0.mk (Kd.R_lower (Kd.R_new' ho0 (Kd.R_lt (by (with_reducible repeat (first | apply Kd.R_alloc | apply Kd.R_drewN | apply Kd.R_drew)); exact HO_3.out))) (below_size (by repeat (first | (with_reducible first | exact HB.out | apply below_alloc | apply pw_below_drewN | apply below_drew1) | exact HB.out))))
                          have n2_ := Aside0.mk (below_step (by repeat (first | (with_reducible first | exact HB.out | apply below_alloc | apply pw_below_drewN | apply below_drew1) | exact HB.out)) hb)
                          clear HO_3
                          clear HB
                          have HO_3 := n0_
                          have HO137 := n1_
                          have HB := n2_
                          clear n0_ n1_ n2_
                          (try clear hb)
                          (try clear hb2)
                          (try clear hk)
                          (try clear hi)
                          (try clear ho0)
                          obtain ⟨Ao16, co16, eo16⟩ := Kd.R_slice HO137.out
                          (first | subst eo16 | (injection eo16 with f1_ f2_ f3_; have f4_ := f1_.symm; have f5_ := f3_.symm; clear f1_ f2_ f3_; subst f4_; subst f5_))
                          have p138 : 0 ≤ (x4_1 : Int) := of_decide_eq_true (by first | (with_reducible assumption) | assumption)
                          have q138 : x4_1 < (t135.length : Int) := of_decide_eq_true (by first | (with_reducible assumption) | assumption)
                          obtain ⟨ad138, e138, hx138_0⟩ := Kd.at_int (Kd.R_reads' HO137.out).2.2 x4_1 p138 q138
                          cases e138
                          replace p138 := eq_true p138
                          replace q138 := eq_true q138
                          refine hK.out _ _ ⟨((HB.out.cell (World.block_lt_of_cell? w _ hw134_0)).trans hw134_0), ((HB.out.cell (World.block_lt_of_cell? w _ hw134_1)).trans hw134_1), ((HB.out.cell (World.block_lt_of_cell? w _ hw134_2)).trans hw134_2), ((HB.out.cell (World.block_lt_of_cell? w _ hw134_3)).trans hw134_3), ((HB.out.cell (World.block_lt_of_cell? w _ hw134_4)).trans hw134_4), ((HB.out.cell (World.block_lt_of_cell? w _ hw134_5)).trans hw134_5), ((HB.out.cell (World.block_lt_of_cell? w _ hw139_0)).trans hw139_0), ((HB.out.cell (World.block_lt_of_cell? w _ hw139_1)).trans hw139_1), ((HB.out.cell (World.block_lt_of_cell? w _ hw139_2)).trans hw139_2), ((HB.out.cell (World.block_lt_of_cell? w _ hw139_3)).trans hw139_3), ((HB.out.cell (World.block_lt_of_cell? w _ hw139_4)).trans hw139_4), ((HB.out.cell (World.block_lt_of_cell? w _ hw139_5)).trans hw139_5), trivial⟩ (fun hHeld => ?_)
                          refine more_ (S2 := fun w' => w'.cell? (ad134.add ((x6_3).toNat * 6)) = some (.int .i64 ((rd_T177 l0 x6_3).f0)) ∧ w'.cell? ⟨(ad134.add ((x6_3).toNat * 6)).block, (ad134.add ((x6_3).toNat * 6)).off + 1, none⟩ = some (.int .i64 ((rd_T177 l0 x6_3).f1)) ∧ w'.cell? ⟨(ad134.add ((x6_3).toNat * 6)).block, (ad134.add ((x6_3).toNat * 6)).off + 2, none⟩ = some (.int .i64 ((rd_T177 l0 x6_3).f2.f0)) ∧ w'.cell? ⟨(ad134.add ((x6_3).toNat * 6)).block, (ad134.add ((x6_3).toNat * 6)).off + 3, none⟩ = some (.int .i64 ((rd_T177 l0 x6_3).f2.f1)) ∧ w'.cell? ⟨(ad134.add ((x6_3).toNat * 6)).block, (ad134.add ((x6_3).toNat * 6)).off + 4, none⟩ = some (.int .i64 ((rd_T177 l0 x6_3).f2.f2)) ∧ w'.cell? ⟨(ad134.add ((x6_3).toNat * 6)).block, (ad134.add ((x6_3).toNat * 6)).off + 5, none⟩ = some (.slice A134_5 ((rd_T177 l0 x6_3).f3).length c134_5) ∧ w'.cell? (ad134.add ((x6_3).toNat * 6)) = some (.int .i64 ((rd_T177 l0 x6_3).f0)) ∧ w'.cell? ⟨(ad134.add ((x6_3).toNat * 6)).block, (ad134.add ((x6_3).toNat * 6)).off + 1, none⟩ = some (.int .i64 ((rd_T177 l0 x6_3).f1)) ∧ w'.cell? ⟨(ad134.add ((x6_3).toNat * 6)).block, (ad134.add ((x6_3).toNat * 6)).off + 2, none⟩ = some (.int .i64 ((rd_T177 l0 x6_3).f2.f0)) ∧ w'.cell? ⟨(ad134.add ((x6_3).toNat * 6)).block, (ad134.add ((x6_3).toNat * 6)).off + 3, none⟩ = some (.int .i64 ((rd_T177 l0 x6_3).f2.f1)) ∧ w'.cell? ⟨(ad134.add ((x6_3).toNat * 6)).block, (ad134.add ((x6_3).toNat * 6)).off + 4, none⟩ = some (.int .i64 ((rd_T177 l0 x6_3).f2.f2)) ∧ w'.cell? ⟨(ad134.add ((x6_3).toNat * 6)).block, (ad134.add ((x6_3).toNat * 6)).off + 5, none⟩ = some (.slice A134_5 ((rd_T177 l0 x6_3).f3).length c134_5) ∧ w'.cell? (ad138.add (x4_1).toNat) = some (.int .i64 (rd t135 x4_1))) (fun w' h => ⟨h.1, h.2.1, h.2.2.1, h.2.2.2.1, h.2.2.2.2.1, h.2.2.2.2.2.1, h.2.2.2.2.2.2.1, h.2.2.2.2.2.2.2.1, h.2.2.2.2.2.2.2.2.1, h.2.2.2.2.2.2.2.2.2.1, h.2.2.2.2.2.2.2.2.2.2.1, h.2.2.2.2.2.2.2.2.2.2.2.1, trivial⟩) ⟨hHeld.1, hHeld.2.1, hHeld.2.2.1, hHeld.2.2.2.1, hHeld.2.2.2.2.1, hHeld.2.2.2.2.2.1, hHeld.2.2.2.2.2.2.1, hHeld.2.2.2.2.2.2.2.1, hHeld.2.2.2.2.2.2.2.2.1, hHeld.2.2.2.2.2.2.2.2.2.1, hHeld.2.2.2.2.2.2.2.2.2.2.1, hHeld.2.2.2.2.2.2.2.2.2.2.2.1, hx138_0⟩ (fun hHeld => ?_)
                          clear hK K
                          refine nx_ (N := some 30) ?_
                          refine px_ (i := 9) (N := some 32) (bz 20 64511) (any_of HT_.out (by kernel_rfl)) ?_
                          refine tx_ (i := 10) (N := some 33) (bz 20 65535) rfl rfl (take_ofW HT_.out HW_.out (by kernel_rfl)) hHeld (by rintro w' ⟨s0, s1, s2, s3, s4, s5, s6, s7, s8, s9, s10, s11, s12⟩; go_simp; with_reducible rfl) ?_
                          refine one_ (i := 16) (N := some 39) (bz 20 131071) rfl rfl (one_of HT_.out (by kernel_rfl)) (by decide) (fun K hK => ?_)
                          refine goes_ Try.func249 (by kernel_rfl) rfl #[.agg #[.int .i64 ((rd_T177 l0 x6_3).f2.f0), .int .i64 ((rd_T177 l0 x6_3).f2.f1), .int .i64 ((rd_T177 l0 x6_3).f2.f2)]] (by rfl) rfl rfl (by (try simp only [List.map_toArray, List.map_cons, List.map_nil]); first | done | rfl | (simp only [List.length_drop, List.length_take]; rfl)) ?_
                          with_reducible refine (spec_VecTop.calls ((rd_T177 l0 x6_3).f2.f0) ((rd_T177 l0 x6_3).f2.f1) ((rd_T177 l0 x6_3).f2.f2) t140 _ A13.out).mono ?_
                          rintro e w17 ⟨rfl, hb⟩
                          have HS12_ := (hb.cell (World.block_lt_of_cell? _ _ (hHeld.2.2.2.2.2.2.2.2.2.2.2.2))).trans (hHeld.2.2.2.2.2.2.2.2.2.2.2.2)
                          refine ⟨_, rfl, ?_⟩
                          have n0_ := Aside0.mk (Kd.R_below (by (with_reducible repeat (first | apply Kd.R_alloc | apply Kd.R_drewN | apply Kd.R_drew)); exact HO_3.out) hb)
                          have n1_ := Aside0.mk (Kd.R_below (by (with_reducible repeat (first | apply Kd.R_alloc | apply Kd.R_drewN | apply Kd.R_drew)); exact HO137.out) hb)
                          have n2_ := Aside0.mk (below_step (by repeat (first | (with_reducible first | exact HB.out | apply below_alloc | apply pw_below_drewN | apply below_drew1) | exact HB.out)) hb)
                          clear HO_3
                          clear HO137
                          clear HB
                          have HO_3 := n0_
                          have HO137 := n1_
                          have HB := n2_
                          clear n0_ n1_ n2_
                          (try clear hb)
                          (try clear hb2)
                          (try clear hk)
                          (try clear hi)
                          refine hK.out _ _ ⟨((HB.out.cell (World.block_lt_of_cell? w _ hw134_0)).trans hw134_0), ((HB.out.cell (World.block_lt_of_cell? w _ hw134_1)).trans hw134_1), ((HB.out.cell (World.block_lt_of_cell? w _ hw134_2)).trans hw134_2), ((HB.out.cell (World.block_lt_of_cell? w _ hw134_3)).trans hw134_3), ((HB.out.cell (World.block_lt_of_cell? w _ hw134_4)).trans hw134_4), ((HB.out.cell (World.block_lt_of_cell? w _ hw134_5)).trans hw134_5), ((HB.out.cell (World.block_lt_of_cell? w _ hw139_0)).trans hw139_0), ((HB.out.cell (World.block_lt_of_cell? w _ hw139_1)).trans hw139_1), ((HB.out.cell (World.block_lt_of_cell? w _ hw139_2)).trans hw139_2), ((HB.out.cell (World.block_lt_of_cell? w _ hw139_3)).trans hw139_3), ((HB.out.cell (World.block_lt_of_cell? w _ hw139_4)).trans hw139_4), ((HB.out.cell (World.block_lt_of_cell? w _ hw139_5)).trans hw139_5), HS12_⟩ (fun hHeld => ?_)
                          clear hK K
                          refine nx_ (N := some 39) ?_
                          refine px_ (i := 17) (N := some 40) (bz 20 262143) (any_of HT_.out (by kernel_rfl)) ?_
                          refine px_ (i := 18) (N := some 41) (bz 20 524287) (any_of HT_.out (by kernel_rfl)) ?_
                          refine px_ (i := 19) (N := some 5) (bz 20 1048575) (any_of HT_.out (by kernel_rfl)) ?_
                          refine done_ (done_of HT_.out (by kernel_rfl)) ?_
                          try go_wp2
                          go_roundg k3
                          case measure => have := HK1.out; have := HJ3.out; have := HK3.out; omega
                          case rel => exact ⟨(((rd t135 x4_1) == t140)), (wrap64 (x6_3 + 1)), (by first | rfl | (simp; done) | (simp [*]; done)), (by first | rfl | (simp; done) | (simp [*]; done)), H', ⟨by have := HK1.out; have := HJ3.out; have := HK3.out; omega⟩, ⟨by (with_reducible repeat (first | apply Kd.R_alloc | apply Kd.R_drewN | apply Kd.R_drew)); exact Kd.R_mono HO_3.out (fun _ hk => trivial)⟩, ⟨by repeat (first | (with_reducible first | exact HB.out | apply below_alloc | apply pw_below_drewN | apply below_drew1) | exact HB.out)⟩⟩
                        · rw [if_neg c12] at H
                          exact absurd H (by simp)
                      · rw [if_neg c11] at H
                        exact absurd H (by simp)
                    · rw [if_neg c9] at H
                      exact absurd H (by simp)
                  · replace c8 := Bool.eq_false_iff.mpr c8
                    subst c8
                    have H1 : (spec_l19Mains.l1 k3 l0 x3_1 x4_1 false (wrap64 (x6_3 + 1))) = some r := by rw [if_neg (show ¬ (false = true) by decide)] at H; exact H
                    clear H
                    have H := H1
                    clear H1
                    have H' := Aside0.mk H
                    clear H
                    try go_wp2
                    have n0_ := Aside0.mk (Kd.R_drew HO_3.out)
                    have n1_ := Aside0.mk (below_drew1 HB.out)
                    clear HO_3
                    clear HB
                    have HO_3 := n0_
                    have HB := n1_
                    clear n0_ n1_
                    refine start_ (n := 20) (S := fun w' => True) (ds := []) (bz 20 0) (by kernel_rfl) rfl (by kernel_rfl) trivial (fun hHeld => ?_); refine with_tabW spec_l19Mains.tab9 spec_l19Mains.bits9 (fun HT_ HW_ => ?_)
                    generalize wr.drew = w18 at HO_3 HB hHeld ⊢
                    refine px_ (i := 0) (N := some 23) (bz 20 1) (any_of HT_.out (by kernel_rfl)) ?_
                    refine px_ (i := 1) (N := some 24) (bz 20 3) (any_of HT_.out (by kernel_rfl)) ?_
                    refine ox_ (i := 2) (N := some 25) (bz 20 7) (any_of HT_.out (by kernel_rfl)) ?_
                    refine ox_ (i := 3) (N := some 26) (bz 20 15) (any_of HT_.out (by kernel_rfl)) ?_
                    refine ox_ (i := 4) (N := some 27) (bz 20 31) (any_of HT_.out (by kernel_rfl)) ?_
                    refine ox_ (i := 5) (N := some 28) (bz 20 63) (any_of HT_.out (by kernel_rfl)) ?_
                    refine ox_ (i := 6) (N := some 29) (bz 20 127) (any_of HT_.out (by kernel_rfl)) ?_
                    refine ox_ (i := 7) (N := some 30) (bz 20 255) (any_of HT_.out (by kernel_rfl)) ?_
                    refine ox_ (i := 8) (N := some 31) (bz 20 511) (any_of HT_.out (by kernel_rfl)) ?_
                    refine ox_ (i := 9) (N := some 32) (bz 20 1023) (any_of HT_.out (by kernel_rfl)) ?_
                    refine ox_ (i := 10) (N := some 33) (bz 20 2047) (any_of HT_.out (by kernel_rfl)) ?_
                    refine ox_ (i := 11) (N := some 34) (bz 20 4095) (any_of HT_.out (by kernel_rfl)) ?_
                    refine ox_ (i := 12) (N := some 35) (bz 20 8191) (any_of HT_.out (by kernel_rfl)) ?_
                    refine ox_ (i := 13) (N := some 36) (bz 20 16383) (any_of HT_.out (by kernel_rfl)) ?_
                    refine ox_ (i := 14) (N := some 37) (bz 20 32767) (any_of HT_.out (by kernel_rfl)) ?_
                    refine ox_ (i := 15) (N := some 38) (bz 20 65535) (any_of HT_.out (by kernel_rfl)) ?_
                    refine ox_ (i := 16) (N := some 39) (bz 20 131071) (any_of HT_.out (by kernel_rfl)) ?_
                    refine ox_ (i := 17) (N := some 40) (bz 20 262143) (any_of HT_.out (by kernel_rfl)) ?_
                    refine px_ (i := 18) (N := some 41) (bz 20 524287) (any_of HT_.out (by kernel_rfl)) ?_
                    refine px_ (i := 19) (N := some 5) (bz 20 1048575) (any_of HT_.out (by kernel_rfl)) ?_
                    refine done_ (done_of HT_.out (by kernel_rfl)) ?_
                    try go_wp2
                    go_roundg k3
                    case measure => have := HK1.out; have := HJ3.out; have := HK3.out; omega
                    case rel => exact ⟨(false), (wrap64 (x6_3 + 1)), (by first | rfl | (simp; done) | (simp [*]; done)), (by first | rfl | (simp; done) | (simp [*]; done)), H', ⟨by have := HK1.out; have := HJ3.out; have := HK3.out; omega⟩, ⟨by (with_reducible repeat (first | apply Kd.R_alloc | apply Kd.R_drewN | apply Kd.R_drew)); exact HO_3.out⟩, ⟨by repeat (first | (with_reducible first | exact HB.out | apply below_alloc | apply pw_below_drewN | apply below_drew1) | exact HB.out)⟩⟩
                · rw [if_neg c7] at H
                  have c7b0 : decide (x6_3 < (l0.length : Int)) = false := decide_eq_false c7
                  clear c7
                  by_cases c19 : x5_3 = true
                  · subst c19
                    have H1 : (if x3_1.length < 17592186044416 then (spec_l19Mains.l0 k3 l0 (x3_1 ++ [x4_1]) (wrap64 (x4_1 + 1))) else (none)) = some r := by rw [if_pos rfl] at H; exact H
                    clear H
                    have H := H1
                    clear H1
                    by_cases c20 : x3_1.length < 17592186044416
                    · rw [if_pos c20] at H
                      have LMc20 := Aside0.mk c20
                      clear c20
                      obtain ⟨y141, hy141⟩ : ∃ y_ : List Int, y_ = (x3_1 ++ [x4_1]) := ⟨_, rfl⟩
                      replace H : (spec_l19Mains.l0 k3 l0 y141 (wrap64 (x4_1 + 1))) = some r := by first | (rw [hy141]; with_reducible exact H) | (have H2_ := (Option.bind_some _ _).symm.trans H; rw [hy141]; with_reducible exact H2_) | (have H2_ := (Option.bind_some _ _).symm.trans H; with_reducible exact H2_) | with_reducible exact H | (rw [hy141]; exact H) | exact H
                      have Ny141 := Aside0.mk hy141
                      clear hy141
                      have H' := Aside0.mk H
                      clear H
                      go_wp2_with (first | ((with_reducible refine gate_builtin (b := .append) (xs := #[.tmp 43, .tmp 45]) rfl ?_); (try (refine gate_guard (by rfl) ?_; dsimp only)); at_builtin; refine Kd.R_append (Kd.int .i64) (w0 := w) w.heap.size rfl (.tmp 43) (.tmp 45) 129 3 (.int .i64 0) 8 rfl Try.underlying129 info3 rfl (by decide) (by omega) u3 x3_1 x4_1 [.int .i64 x4_1] (fun _ => True) (fun _ => False) rfl rfl ?aP (fun _ hk => hk.elim) ?aF ?aO ?aB ?aS ?aL ?_; (case aP => exact rfl); (case aB => exact (by repeat (first | (with_reducible first | exact HB.out | apply below_alloc | apply pw_below_drewN | apply below_drew1) | exact HB.out))); (case aF => exact (fun _ _ => trivial)); (case aO => exact (by (with_reducible repeat (first | apply Kd.R_alloc | apply Kd.R_drewN | apply Kd.R_drew)); exact HO_3.out)); (case aS => exact (below_size (by repeat (first | (with_reducible first | exact HB.out | apply below_alloc | apply pw_below_drewN | apply below_drew1) | exact HB.out)))); (case aL => have := LMc20.out; omega); intro v142 w21 ho hb hg hat; rw [← Ny141.out] at ho; have n0_ := Aside0.mk (hb); have n1_ := Aside0.mk (ho); clear HB; clear HO_3; have HB := n0_; have HO143 := n1_; clear n0_ n1_; clear ho hb hg hat))
                      go_roundg k3
                      case measure => have := HK1.out; have := HJ3.out; have := HK3.out; omega
                      case rel => exact ⟨(y141), (wrap64 (x4_1 + 1)), (by first | rfl | (simp; done) | (simp [*]; done)), H', ⟨by have := HK1.out; have := HJ3.out; have := HK3.out; omega⟩, ⟨by (with_reducible repeat (first | apply Kd.R_alloc | apply Kd.R_drewN | apply Kd.R_drew)); exact HO143.out⟩, ⟨by repeat (first | (with_reducible first | exact HB.out | apply below_alloc | apply pw_below_drewN | apply below_drew1) | exact HB.out)⟩⟩
                    · rw [if_neg c20] at H
                      exact absurd H (by simp)
                  · replace c19 := Bool.eq_false_iff.mpr c19
                    subst c19
                    have H1 : (spec_l19Mains.l0 k3 l0 x3_1 (wrap64 (x4_1 + 1))) = some r := by rw [if_neg (show ¬ (false = true) by decide)] at H; exact H
                    clear H
                    have H := H1
                    clear H1
                    have H' := Aside0.mk H
                    clear H
                    go_wp2
                    go_roundg k3
                    case measure => have := HK1.out; have := HJ3.out; have := HK3.out; omega
                    case rel => exact ⟨(x3_1), (wrap64 (x4_1 + 1)), (by first | rfl | (simp; done) | (simp [*]; done)), H', ⟨by have := HK1.out; have := HJ3.out; have := HK3.out; omega⟩, ⟨by (with_reducible repeat (first | apply Kd.R_alloc | apply Kd.R_drewN | apply Kd.R_drew)); exact HO_3.out⟩, ⟨by repeat (first | (with_reducible first | exact HB.out | apply below_alloc | apply pw_below_drewN | apply below_drew1) | exact HB.out)⟩⟩
          · replace c6 := Bool.eq_false_iff.mpr c6
            subst c6
            have H1 : (some x3_1) = some r := by rw [if_neg (show ¬ (false = true) by decide)] at H; exact H
            clear H
            have H := H1
            clear H1
            obtain rfl := Option.some.inj H
            go_wp2
            go_ret
            exact ⟨_, by first | rfl | (simp [errW_none, errW_some] <;> rfl) | (simp [*, errW_none, errW_some] <;> rfl), by (with_reducible repeat (first | apply Kd.R_alloc | apply Kd.R_drewN | apply Kd.R_drew)); exact HO_3.out, by repeat (first | (with_reducible first | exact HB.out | apply below_alloc | apply pw_below_drewN | apply below_drew1) | exact HB.out)⟩

end Go.Proofs.Ytaifcchkflcbhaa.PFnExactGapOf
