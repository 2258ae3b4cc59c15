-- by a program of this session's, over the kit's words
import Derived.Test.YtcdangcjbijfkaaPZFnExactLineHeld
import Derived.Test.YtcdangcjbijfkaaPFnExactLineHeldx0
import Derived.Test.YtcdangcjbijfkaaPFnExactLineHeldx1
namespace Go.Proofs.Ytcdangcjbijfkaa.PFnExactLineHeld
open Go.RowKit Go.Proofs.YtcdangcjbijfkaaW.PrintWords Go.Proofs.YtcdangcjbijfkaaW.PrintLast Go.Proofs.YtcdangcjbijfkaaW.PrintMore Go.Proofs.YtcdangcjbijfkaaV Go.Proofs.Ytcdangcjbijfkaa.ZFnExactLineHeld
attribute [local go_sem] max2_int min2_int max_two min_two max_three min_three max_four min_four   -- for this text's walks alone
set_option linter.unusedVariables false
set_option linter.unusedSimpArgs false

/-! ### spec_LineOk: function 10 -/
mutual
def spec_LineOk.j0 : Nat → Bool → Int → List (S42) → List (S42) → List (S42) → Option (Bool)
 | 0, _, _, _, _, _ => none
 | k + 1, x39, x119000, x119001, x119002, x119003 => if x39 = true then (some false) else ((spec_l21All.f x119000 x119001 x119002 x119003).bind fun t119 => (if (t119.length : Int) > x119000 then (some false) else (spec_LineOk.l0 k t119 0 x119000 x119001 x119002 x119003)))
def spec_LineOk.l0 : Nat → List (S42) → Int → Int → List (S42) → List (S42) → List (S42) → Option (Bool)
 | 0, _, _, _, _, _, _ => none
 | k + 1, x3, x4, x119000, x119001, x119002, x119003 => if x4 < (x3.length : Int) then (if 0 ≤ x4 then (if ((rd_T42 x3 x4).f0) < 0 then (spec_LineOk.j2 k x3 x4 true x119000 x119001 x119002 x119003) else (spec_LineOk.j2 k x3 x4 (decide (((rd_T42 x3 x4).f0) > 1000000000000)) x119000 x119001 x119002 x119003)) else (none)) else (some true)
def spec_LineOk.j2 : Nat → List (S42) → Int → Bool → Int → List (S42) → List (S42) → List (S42) → Option (Bool)
 | 0, _, _, _, _, _, _, _ => none
 | k + 1, x3, x4, x66, x119000, x119001, x119002, x119003 => if x66 = true then (some false) else (spec_LineOk.l1 k x3 x4 0 x119000 x119001 x119002 x119003)
def spec_LineOk.l1 : Nat → List (S42) → Int → Int → Int → List (S42) → List (S42) → List (S42) → Option (Bool)
 | 0, _, _, _, _, _, _, _ => none
 | k + 1, x3, x4, x5, x119000, x119001, x119002, x119003 => if x5 < x4 then (if 0 ≤ x5 then (if x5 < (x3.length : Int) then (if 0 ≤ x4 then (if x4 < (x3.length : Int) then (if ((rd_T42 x3 x5).f0) = ((rd_T42 x3 x4).f0) then (some false) else (spec_LineOk.l1 k x3 x4 (wrap64 (x5 + 1)) x119000 x119001 x119002 x119003)) else (none)) else (none)) else (none)) else (none)) else (if 0 ≤ x4 then (if x4 < (x3.length : Int) then (if x4 < (x119003.length : Int) then (spec_LineOk.j4 k x3 x4 2 x119000 x119001 x119002 x119003 ((rd_T42 x3 x4).f1.f0) ((rd_T42 x3 x4).f1.f1) ((rd_T42 x3 x4).f1.f2)) else (if x4 < (wrap64 ((x119003.length : Int) + (x119002.length : Int))) then (spec_LineOk.j4 k x3 x4 1 x119000 x119001 x119002 x119003 ((rd_T42 x3 x4).f1.f0) ((rd_T42 x3 x4).f1.f1) ((rd_T42 x3 x4).f1.f2)) else (spec_LineOk.j4 k x3 x4 0 x119000 x119001 x119002 x119003 ((rd_T42 x3 x4).f1.f0) ((rd_T42 x3 x4).f1.f1) ((rd_T42 x3 x4).f1.f2)))) else (none)) else (none))
def spec_LineOk.j4 : Nat → List (S42) → Int → Int → Int → List (S42) → List (S42) → List (S42) → Int → Int → Int → Option (Bool)
 | 0, _, _, _, _, _, _, _, _, _, _ => none
 | k + 1, x3, x4, x7, x119000, x119001, x119002, x119003, x128000, x128001, x128002 => if x7 > 0 then (if x128000 = 0 then (if x7 = 0 then (if x128000 < 1 then (spec_LineOk.j5 k x3 x4 x7 true x119000 x119001 x119002 x119003 x128000 x128001 x128002) else (spec_LineOk.j5 k x3 x4 x7 (decide (x128000 > 1000)) x119000 x119001 x119002 x119003 x128000 x128001 x128002)) else (spec_LineOk.j5 k x3 x4 x7 false x119000 x119001 x119002 x119003 x128000 x128001 x128002)) else (spec_LineOk.j5 k x3 x4 x7 true x119000 x119001 x119002 x119003 x128000 x128001 x128002)) else (if x7 = 0 then (if x128000 < 1 then (spec_LineOk.j5 k x3 x4 x7 true x119000 x119001 x119002 x119003 x128000 x128001 x128002) else (spec_LineOk.j5 k x3 x4 x7 (decide (x128000 > 1000)) x119000 x119001 x119002 x119003 x128000 x128001 x128002)) else (spec_LineOk.j5 k x3 x4 x7 false x119000 x119001 x119002 x119003 x128000 x128001 x128002))
def spec_LineOk.j5 : Nat → List (S42) → Int → Int → Bool → Int → List (S42) → List (S42) → List (S42) → Int → Int → Int → Option (Bool)
 | 0, _, _, _, _, _, _, _, _, _, _, _ => none
 | k + 1, x3, x4, x7, x122, x119000, x119001, x119002, x119003, x128000, x128001, x128002 => if x122 = true then (some false) else (if x7 = 2 then (if x128001 = 0 then (if x7 < 2 then (if x128001 < 1 then (some false) else (if x128001 > 1000 then (some false) else (if x128002 < 1 then (some false) else (if x128002 > 1000 then (some false) else (spec_LineOk.l0 k x3 (wrap64 (x4 + 1)) x119000 x119001 x119002 x119003))))) else (if x128002 < 1 then (some false) else (if x128002 > 1000 then (some false) else (spec_LineOk.l0 k x3 (wrap64 (x4 + 1)) x119000 x119001 x119002 x119003)))) else (some false)) else (if x7 < 2 then (if x128001 < 1 then (some false) else (if x128001 > 1000 then (some false) else (if x128002 < 1 then (some false) else (if x128002 > 1000 then (some false) else (spec_LineOk.l0 k x3 (wrap64 (x4 + 1)) x119000 x119001 x119002 x119003))))) else (if x128002 < 1 then (some false) else (if x128002 > 1000 then (some false) else (spec_LineOk.l0 k x3 (wrap64 (x4 + 1)) x119000 x119001 x119002 x119003)))))
end
def spec_LineOk.f (k : Nat) (a0_0 : Int) (l0_1 : List (S42)) (l0_2 : List (S42)) (l0_3 : List (S42)) : Option (Bool) := if a0_0 < 1 then (spec_LineOk.j0 k true a0_0 l0_1 l0_2 l0_3) else (if a0_0 > 16 then (spec_LineOk.j0 k true a0_0 l0_1 l0_2 l0_3) else (if (l0_1.length : Int) > a0_0 then (spec_LineOk.j0 k true a0_0 l0_1 l0_2 l0_3) else (if (l0_2.length : Int) > a0_0 then (spec_LineOk.j0 k true a0_0 l0_1 l0_2 l0_3) else (spec_LineOk.j0 k (decide ((l0_3.length : Int) > a0_0)) a0_0 l0_1 l0_2 l0_3))))
set_option maxHeartbeats 8000000 in
set_option maxRecDepth 100000 in
theorem spec_LineOk.calls (k : Nat) (a0_0 : Int) (A0_1 : Option Addr) (c0_1 : Nat) (l0_1 : List (S42)) (A0_2 : Option Addr) (c0_2 : Nat) (l0_2 : List (S42)) (A0_3 : Option Addr) (c0_3 : Nat) (l0_3 : List (S42)) (r : Bool) (w : World) (hr0_1 : Kd.C k42 w A0_1 l0_1.length l0_1) (hc0_1 : l0_1.length ≤ c0_1) (hr0_2 : Kd.C k42 w A0_2 l0_2.length l0_2) (hc0_2 : l0_2.length ≤ c0_2) (hr0_3 : Kd.C k42 w A0_3 l0_3.length l0_3) (hc0_3 : l0_3.length ≤ c0_3) (h : spec_LineOk.f k a0_0 l0_1 l0_2 l0_3 = some r) :
  Calls Try.prog 10 #[.agg #[.int .i64 a0_0, .slice A0_1 l0_1.length c0_1, .slice A0_2 l0_2.length c0_2, .slice A0_3 l0_3.length c0_3]] w fun e w' => e = .returned (.bool r) ∧ Below w.heap.size w w' := by
 have hu29 := Try.underlying29
 have hu40 := Try.underlying40
 have HR0_1 := Aside0.mk hr0_1
 have HC0_1 := Aside0.mk hc0_1
 clear hr0_1 hc0_1
 have HR0_2 := Aside0.mk hr0_2
 have HC0_2 := Aside0.mk hc0_2
 clear hr0_2 hc0_2
 have HR0_3 := Aside0.mk hr0_3
 have HC0_3 := Aside0.mk hc0_3
 clear hr0_3 hc0_3
 have HB := Aside0.mk (Below.refl w.heap.size w)
 have H : (if a0_0 < 1 then (spec_LineOk.j0 k true a0_0 l0_1 l0_2 l0_3) else (if a0_0 > 16 then (spec_LineOk.j0 k true a0_0 l0_1 l0_2 l0_3) else (if (l0_1.length : Int) > a0_0 then (spec_LineOk.j0 k true a0_0 l0_1 l0_2 l0_3) else (if (l0_2.length : Int) > a0_0 then (spec_LineOk.j0 k true a0_0 l0_1 l0_2 l0_3) else (spec_LineOk.j0 k (decide ((l0_3.length : Int) > a0_0)) a0_0 l0_1 l0_2 l0_3))))) = some r := h
 clear h
 have HC2 := Aside0.mk H
 clear H
 go_enter Try.func10, Try.ntmps10
 go_upto_region 1 with (first | ((with_reducible refine gate_dst (N := 1) rfl ?_); (try (refine gate_guard (by rfl) ?_; dsimp only)); refine box_event ?hg (N := 1) ?hd (cs := #[.int .i64 a0_0, .slice A0_1 l0_1.length c0_1, .slice A0_2 l0_2.length c0_2, .slice A0_3 l0_3.length c0_3]) (t := 29) ?hr ?_; (case hd => rfl); (case hg => rfl); (case hr => first | (go_simp; done) | (go_simp; rfl)); intro gb118 hg w3 hbox hb; have n_ := an_ (below_step (pB_ HB.out) hb) <| an_ (hbox) <| an_ ((by rw [hg]; exact (below_size (pB_ HB.out)) : w.heap.size ≤ gb118)) <| Aside0.mk ((by rw [hg]; exact (below_size (pB_ HB.out)) : w.heap.size ≤ gb118)); clear HB; obtain ⟨HB, BK118, GW118, GE118⟩ := n_; clear hb hbox hg))
 repeat (go_quiet (first | ((with_reducible refine gate_dst (N := 1) rfl ?_); (try (refine gate_guard (by rfl) ?_; dsimp only)); refine box_event ?hg (N := 1) ?hd (cs := #[.int .i64 a0_0, .slice A0_1 l0_1.length c0_1, .slice A0_2 l0_2.length c0_2, .slice A0_3 l0_3.length c0_3]) (t := 29) ?hr ?_; (case hd => rfl); (case hg => rfl); (case hr => first | (go_simp; done) | (go_simp; rfl)); intro gb118 hg w3 hbox hb; have n_ := an_ (below_step (pB_ HB.out) hb) <| an_ (hbox) <| an_ ((by rw [hg]; exact (below_size (pB_ HB.out)) : w.heap.size ≤ gb118)) <| Aside0.mk ((by rw [hg]; exact (below_size (pB_ HB.out)) : w.heap.size ≤ gb118)); clear HB; obtain ⟨HB, BK118, GW118, GE118⟩ := n_; clear hb hbox hg)); go_upto_region 1 with (first | ((with_reducible refine gate_dst (N := 1) rfl ?_); (try (refine gate_guard (by rfl) ?_; dsimp only)); refine box_event ?hg (N := 1) ?hd (cs := #[.int .i64 a0_0, .slice A0_1 l0_1.length c0_1, .slice A0_2 l0_2.length c0_2, .slice A0_3 l0_3.length c0_3]) (t := 29) ?hr ?_; (case hd => rfl); (case hg => rfl); (case hr => first | (go_simp; done) | (go_simp; rfl)); intro gb118 hg w3 hbox hb; have n_ := an_ (below_step (pB_ HB.out) hb) <| an_ (hbox) <| an_ ((by rw [hg]; exact (below_size (pB_ HB.out)) : w.heap.size ≤ gb118)) <| Aside0.mk ((by rw [hg]; exact (below_size (pB_ HB.out)) : w.heap.size ≤ gb118)); clear HB; obtain ⟨HB, BK118, GW118, GE118⟩ := n_; clear hb hbox hg)))
 (try simp only [Act.put, List.setIfInBounds_toArray, List.set_cons_zero, List.set_cons_succ])
 go_cut [39] (fun v39 wc => ∃ (kq : Nat) (x39_1 : Bool), v39 = .bool x39_1 ∧ Aside0 (spec_LineOk.j0 kq x39_1 a0_0 l0_1 l0_2 l0_3 = some r) ∧ Aside0 (kq ≤ k) ∧ Aside0 (wc.heap[gb118]? = some (.cells #[.int .i64 a0_0, (.slice A0_1 l0_1.length c0_1), (.slice A0_2 l0_2.length c0_2), (.slice A0_3 l0_3.length c0_3)] 29 (0, 0))) ∧ Aside0 (Below w.heap.size w wc))
 case first =>
  have H := HC2.out; clear HC2
  by_cases c4 : a0_0 < 1
  ·rw [if_pos c4] at H
   have c4b0 : decide (a0_0 < 1) = true := decide_eq_true c4; clear c4; (first | rw [c4b0] | (simp only [i64_w, i32_w]; rw [c4b0]) | (have cz_ := c4b0; simp only [bne, gt_iff_lt, Int.natCast_pos] at cz_; first | rw [cz_] | (simp only [i64_w, i32_w]; rw [cz_])) | skip); have H' := Aside0.mk H; clear H; obtain ⟨hcz5_0, hcz5_1, hcz5_2, hcz5_3, hfz5_0, hfz5_1, hfz5_2, hfz5_3⟩ := cells4 BK118.out
   go_wp2
   repeat (go_quiet (fail); try go_wp2)
   go_meet
   case rel => exact ⟨_, (true), Z6, H', ⟨by first | omega | exact Nat.le_refl _⟩, ⟨pk_ BK118.out⟩, ⟨pB_ HB.out⟩⟩
  ·rw [if_neg c4] at H
   have c4b0 : decide (a0_0 < 1) = false := decide_eq_false c4; clear c4; (first | rw [c4b0] | (simp only [i64_w, i32_w]; rw [c4b0]) | (have cz_ := c4b0; simp only [bne, gt_iff_lt, Int.natCast_pos] at cz_; first | rw [cz_] | (simp only [i64_w, i32_w]; rw [cz_])) | skip)
   by_cases c6 : a0_0 > 16
   ·rw [if_pos c6] at H
    have c6b0 : decide (16 < a0_0) = true := decide_eq_true c6; clear c6; have H' := Aside0.mk H; clear H; obtain ⟨hcz7_0, hcz7_1, hcz7_2, hcz7_3, hfz7_0, hfz7_1, hfz7_2, hfz7_3⟩ := cells4 BK118.out
    go_wp2
    repeat (go_quiet (fail); try go_wp2)
    go_meet
    case rel => exact ⟨_, (true), Z6, H', ⟨by first | omega | exact Nat.le_refl _⟩, ⟨pk_ BK118.out⟩, ⟨pB_ HB.out⟩⟩
   ·rw [if_neg c6] at H
    have c6b0 : decide (16 < a0_0) = false := decide_eq_false c6; clear c6
    by_cases c8 : (l0_1.length : Int) > a0_0
    ·rw [if_pos c8] at H
     have c8b0 : decide (a0_0 < (l0_1.length : Int)) = true := decide_eq_true c8; clear c8; have H' := Aside0.mk H; clear H; obtain ⟨hcz9_0, hcz9_1, hcz9_2, hcz9_3, hfz9_0, hfz9_1, hfz9_2, hfz9_3⟩ := cells4 BK118.out
     go_wp2
     repeat (go_quiet (fail); try go_wp2)
     go_meet
     case rel => exact ⟨_, (true), Z6, H', ⟨by first | omega | exact Nat.le_refl _⟩, ⟨pk_ BK118.out⟩, ⟨pB_ HB.out⟩⟩
    ·rw [if_neg c8] at H
     have c8b0 : decide (a0_0 < (l0_1.length : Int)) = false := decide_eq_false c8; clear c8
     by_cases c10 : (l0_2.length : Int) > a0_0
     ·rw [if_pos c10] at H
      have c10b0 : decide (a0_0 < (l0_2.length : Int)) = true := decide_eq_true c10; clear c10; have H' := Aside0.mk H; clear H; obtain ⟨hcz11_0, hcz11_1, hcz11_2, hcz11_3, hfz11_0, hfz11_1, hfz11_2, hfz11_3⟩ := cells4 BK118.out
      go_wp2
      repeat (go_quiet (fail); try go_wp2)
      go_meet
      case rel => exact ⟨_, (true), Z6, H', ⟨by first | omega | exact Nat.le_refl _⟩, ⟨pk_ BK118.out⟩, ⟨pB_ HB.out⟩⟩
     ·rw [if_neg c10] at H
      have c10b0 : decide (a0_0 < (l0_2.length : Int)) = false := decide_eq_false c10; clear c10; have H' := Aside0.mk H; clear H; obtain ⟨hcz12_0, hcz12_1, hcz12_2, hcz12_3, hfz12_0, hfz12_1, hfz12_2, hfz12_3⟩ := cells4 BK118.out
      go_wp2
      repeat (go_quiet (fail); try go_wp2)
      go_meet
      case rel => exact ⟨_, (decide ((l0_3.length : Int) > a0_0)), Z6, H', ⟨by first | omega | exact Nat.le_refl _⟩, ⟨pk_ BK118.out⟩, ⟨pB_ HB.out⟩⟩
 case rest =>
  clear HC2
  try clear c1
  try clear p2
  try clear c4
  try clear c4b0
  try clear c6
  try clear c6b0
  try clear c8
  try clear c8b0
  try clear c10
  try clear c10b0
  try clear hcz11_0
  try clear hcz11_1
  try clear hcz11_2
  try clear hcz11_3
  try clear hcz12_0
  try clear hcz12_1
  try clear hcz12_2
  try clear hcz12_3
  try clear hcz5_0
  try clear hcz5_1
  try clear hcz5_2
  try clear hcz5_3
  try clear hcz7_0
  try clear hcz7_1
  try clear hcz7_2
  try clear hcz7_3
  try clear hcz9_0
  try clear hcz9_1
  try clear hcz9_2
  try clear hcz9_3
  try clear hfz11_0
  try clear hfz11_1
  try clear hfz11_2
  try clear hfz11_3
  try clear hfz12_0
  try clear hfz12_1
  try clear hfz12_2
  try clear hfz12_3
  try clear hfz5_0
  try clear hfz5_1
  try clear hfz5_2
  try clear hfz5_3
  try clear hfz7_0
  try clear hfz7_1
  try clear hfz7_2
  try clear hfz7_3
  try clear hfz9_0
  try clear hfz9_1
  try clear hfz9_2
  try clear hfz9_3
  obtain ⟨kq, x39_1, rfl, HA, HJ1, BK118, HB⟩ := hcut
  cases kq with
  | zero => exact absurd HA.out (by simp [spec_LineOk.j0])
  | succ kj1 =>
   have H := HA.out; clear HA; simp only [spec_LineOk.j0] at H
   by_cases c13 : x39_1 = true
   ·subst c13
    rw [if_pos rfl] at H; obtain rfl := Option.some.inj H
    go_wp2
    repeat (go_quiet (fail); try go_wp2)
    go_ret; exact ⟨by first | rfl | (simp [errW_none, errW_some] <;> rfl) | (simp [*, errW_none, errW_some] <;> rfl), by repeat (first | (with_reducible first | exact HB.out | apply below_alloc | apply pw_below_drewN | apply below_drew1 | refine below_set ?_ GE118.out) | exact HB.out)⟩
   ·replace c13 := Bool.eq_false_iff.mpr c13
    subst c13; rw [if_neg (show ¬ (false = true) by decide)] at H; obtain ⟨t119, A140, H⟩ := Option.bind_eq_some_iff.mp H; (try dsimp only at H); have A14 := Aside0.mk A140; clear A140; have HU15 := Aside0.mk H; clear H; obtain ⟨hcz16_0, hcz16_1, hcz16_2, hcz16_3, hfz16_0, hfz16_1, hfz16_2, hfz16_3⟩ := cells4 BK118.out
    go_upto_if 46 with (first | (go_at_call 11; (with_reducible refine (spec_l21All.calls a0_0 _ _ l0_1 _ _ l0_2 _ _ l0_3 t119 _ ?side1 ?side2 ?side3 ?side4 ?side5 ?side6 A14.out).mono ?_); (case side1 => repeat (first | exact (Kd.C_below HR0_1.out HB.out) | (with_reducible refine Kd.C_alloc ?_ _) | (with_reducible refine Kd.C_drewN ?_ _) | (with_reducible refine Kd.C_drew ?_))); (case side2 => exact HC0_1.out); (case side3 => repeat (first | exact (Kd.C_below HR0_2.out HB.out) | (with_reducible refine Kd.C_alloc ?_ _) | (with_reducible refine Kd.C_drewN ?_ _) | (with_reducible refine Kd.C_drew ?_))); (case side4 => exact HC0_2.out); (case side5 => repeat (first | exact (Kd.C_below HR0_3.out HB.out) | (with_reducible refine Kd.C_alloc ?_ _) | (with_reducible refine Kd.C_drewN ?_ _) | (with_reducible refine Kd.C_drew ?_))); (case side6 => exact HC0_3.out); rintro e w17 ⟨v120, rfl, ho0, hb⟩; have n_ := an_ (Kd.R_lower ho0 (below_size (pB_ HB.out))) <| an_ (blk_below (pk_ BK118.out) hb) <| Aside0.mk (below_step (pB_ HB.out) hb); clear BK118 HB; obtain ⟨HO121, BK118, HB⟩ := n_; (try clear hb); (try clear hb2); (try clear hk); (try clear hi); (try clear ho0); obtain ⟨Ao18, co18, eo18⟩ := Kd.R_slice HO121.out; subst eo18; have hcz19_0 : w17.cell? ⟨gb118, 0, none⟩ = some (.int .i64 a0_0) := (blk_cell BK118.out 0).trans rfl; have hcz19_1 : w17.cell? ⟨gb118, 1, none⟩ = some (.slice A0_1 l0_1.length c0_1) := (blk_cell BK118.out 1).trans rfl; have hcz19_2 : w17.cell? ⟨gb118, 2, none⟩ = some (.slice A0_2 l0_2.length c0_2) := (blk_cell BK118.out 2).trans rfl; have hcz19_3 : w17.cell? ⟨gb118, 3, none⟩ = some (.slice A0_3 l0_3.length c0_3) := (blk_cell BK118.out 3).trans rfl; have hfz19_0 := blk_frozen BK118.out 0; have hfz19_1 := blk_frozen BK118.out 1; have hfz19_2 := blk_frozen BK118.out 2; have hfz19_3 := blk_frozen BK118.out 3))
    repeat (go_quiet (first | (go_at_call 11; (with_reducible refine (spec_l21All.calls a0_0 _ _ l0_1 _ _ l0_2 _ _ l0_3 t119 _ ?side1 ?side2 ?side3 ?side4 ?side5 ?side6 A14.out).mono ?_); (case side1 => repeat (first | exact (Kd.C_below HR0_1.out HB.out) | (with_reducible refine Kd.C_alloc ?_ _) | (with_reducible refine Kd.C_drewN ?_ _) | (with_reducible refine Kd.C_drew ?_))); (case side2 => exact HC0_1.out); (case side3 => repeat (first | exact (Kd.C_below HR0_2.out HB.out) | (with_reducible refine Kd.C_alloc ?_ _) | (with_reducible refine Kd.C_drewN ?_ _) | (with_reducible refine Kd.C_drew ?_))); (case side4 => exact HC0_2.out); (case side5 => repeat (first | exact (Kd.C_below HR0_3.out HB.out) | (with_reducible refine Kd.C_alloc ?_ _) | (with_reducible refine Kd.C_drewN ?_ _) | (with_reducible refine Kd.C_drew ?_))); (case side6 => exact HC0_3.out); rintro e w17 ⟨v120, rfl, ho0, hb⟩; have n_ := an_ (Kd.R_lower ho0 (below_size (pB_ HB.out))) <| an_ (blk_below (pk_ BK118.out) hb) <| Aside0.mk (below_step (pB_ HB.out) hb); clear BK118 HB; obtain ⟨HO121, BK118, HB⟩ := n_; (try clear hb); (try clear hb2); (try clear hk); (try clear hi); (try clear ho0); obtain ⟨Ao18, co18, eo18⟩ := Kd.R_slice HO121.out; subst eo18; have hcz19_0 : w17.cell? ⟨gb118, 0, none⟩ = some (.int .i64 a0_0) := (blk_cell BK118.out 0).trans rfl; have hcz19_1 : w17.cell? ⟨gb118, 1, none⟩ = some (.slice A0_1 l0_1.length c0_1) := (blk_cell BK118.out 1).trans rfl; have hcz19_2 : w17.cell? ⟨gb118, 2, none⟩ = some (.slice A0_2 l0_2.length c0_2) := (blk_cell BK118.out 2).trans rfl; have hcz19_3 : w17.cell? ⟨gb118, 3, none⟩ = some (.slice A0_3 l0_3.length c0_3) := (blk_cell BK118.out 3).trans rfl; have hfz19_0 := blk_frozen BK118.out 0; have hfz19_1 := blk_frozen BK118.out 1; have hfz19_2 := blk_frozen BK118.out 2; have hfz19_3 := blk_frozen BK118.out 3)); go_upto_if 46 with (first | (go_at_call 11; (with_reducible refine (spec_l21All.calls a0_0 _ _ l0_1 _ _ l0_2 _ _ l0_3 t119 _ ?side1 ?side2 ?side3 ?side4 ?side5 ?side6 A14.out).mono ?_); (case side1 => repeat (first | exact (Kd.C_below HR0_1.out HB.out) | (with_reducible refine Kd.C_alloc ?_ _) | (with_reducible refine Kd.C_drewN ?_ _) | (with_reducible refine Kd.C_drew ?_))); (case side2 => exact HC0_1.out); (case side3 => repeat (first | exact (Kd.C_below HR0_2.out HB.out) | (with_reducible refine Kd.C_alloc ?_ _) | (with_reducible refine Kd.C_drewN ?_ _) | (with_reducible refine Kd.C_drew ?_))); (case side4 => exact HC0_2.out); (case side5 => repeat (first | exact (Kd.C_below HR0_3.out HB.out) | (with_reducible refine Kd.C_alloc ?_ _) | (with_reducible refine Kd.C_drewN ?_ _) | (with_reducible refine Kd.C_drew ?_))); (case side6 => exact HC0_3.out); rintro e w17 ⟨v120, rfl, ho0, hb⟩; have n_ := an_ (Kd.R_lower ho0 (below_size (pB_ HB.out))) <| an_ (blk_below (pk_ BK118.out) hb) <| Aside0.mk (below_step (pB_ HB.out) hb); clear BK118 HB; obtain ⟨HO121, BK118, HB⟩ := n_; (try clear hb); (try clear hb2); (try clear hk); (try clear hi); (try clear ho0); obtain ⟨Ao18, co18, eo18⟩ := Kd.R_slice HO121.out; subst eo18; have hcz19_0 : w17.cell? ⟨gb118, 0, none⟩ = some (.int .i64 a0_0) := (blk_cell BK118.out 0).trans rfl; have hcz19_1 : w17.cell? ⟨gb118, 1, none⟩ = some (.slice A0_1 l0_1.length c0_1) := (blk_cell BK118.out 1).trans rfl; have hcz19_2 : w17.cell? ⟨gb118, 2, none⟩ = some (.slice A0_2 l0_2.length c0_2) := (blk_cell BK118.out 2).trans rfl; have hcz19_3 : w17.cell? ⟨gb118, 3, none⟩ = some (.slice A0_3 l0_3.length c0_3) := (blk_cell BK118.out 3).trans rfl; have hfz19_0 := blk_frozen BK118.out 0; have hfz19_1 := blk_frozen BK118.out 1; have hfz19_2 := blk_frozen BK118.out 2; have hfz19_3 := blk_frozen BK118.out 3)))
    have H := HU15.out; clear HU15
    by_cases c20 : (t119.length : Int) > a0_0
    ·rw [if_pos c20] at H
     have c20b0 : decide (a0_0 < (t119.length : Int)) = true := decide_eq_true c20; clear c20; (first | rw [c20b0] | (simp only [i64_w, i32_w]; rw [c20b0]) | (have cz_ := c20b0; simp only [bne, gt_iff_lt, Int.natCast_pos] at cz_; first | rw [cz_] | (simp only [i64_w, i32_w]; rw [cz_])) | skip); obtain rfl := Option.some.inj H
     go_wp2
     repeat (go_quiet (fail); try go_wp2)
     go_ret; exact ⟨by first | rfl | (simp [errW_none, errW_some] <;> rfl) | (simp [*, errW_none, errW_some] <;> rfl), by repeat (first | (with_reducible first | exact HB.out | apply below_alloc | apply pw_below_drewN | apply below_drew1 | refine below_set ?_ GE118.out) | exact HB.out)⟩
    ·rw [if_neg c20] at H
     have c20b0 : decide (a0_0 < (t119.length : Int)) = false := decide_eq_false c20; clear c20; (first | rw [c20b0] | (simp only [i64_w, i32_w]; rw [c20b0]) | (have cz_ := c20b0; simp only [bne, gt_iff_lt, Int.natCast_pos] at cz_; first | rw [cz_] | (simp only [i64_w, i32_w]; rw [cz_])) | skip); have H' := Aside0.mk H; clear H
     go_wp2
     repeat (go_quiet (fail); try go_wp2)
     go_loopg [4] kj1 (fun kq v4 w' => ∃ (x4_2 : Int), v4 = .int .i64 x4_2 ∧ Aside0 (spec_LineOk.l0 kq t119 x4_2 a0_0 l0_1 l0_2 l0_3 = some r) ∧ Aside0 (kq ≤ kj1) ∧ Aside0 (Kd.R k42 42 w' w.heap.size (fun _ => True) (.slice Ao18 t119.length co18) t119) ∧ Aside0 (w'.heap[gb118]? = some (.cells #[.int .i64 a0_0, (.slice A0_1 l0_1.length c0_1), (.slice A0_2 l0_2.length c0_2), (.slice A0_3 l0_3.length c0_3)] 29 (0, 0))) ∧ Aside0 (Below w.heap.size w w'))
     case atStart => exact ⟨(0), Z6, H', ⟨Nat.le_refl _⟩, ⟨pR_ HO121.out⟩, ⟨pk_ BK118.out⟩, ⟨pB_ HB.out⟩⟩
     case round =>
      clear H'
      try clear c1
      try clear c2
      try clear p2
      try clear c4
      try clear c4b0
      try clear c6
      try clear c6b0
      try clear c8
      try clear c8b0
      try clear c10
      try clear c10b0
      try clear c13
      try clear c20
      try clear c20b0
      try clear hcz11_0
      try clear hcz11_1
      try clear hcz11_2
      try clear hcz11_3
      try clear hcz12_0
      try clear hcz12_1
      try clear hcz12_2
      try clear hcz12_3
      try clear hcz16_0
      try clear hcz16_1
      try clear hcz16_2
      try clear hcz16_3
      try clear hcz19_0
      try clear hcz19_1
      try clear hcz19_2
      try clear hcz19_3
      try clear hcz5_0
      try clear hcz5_1
      try clear hcz5_2
      try clear hcz5_3
      try clear hcz7_0
      try clear hcz7_1
      try clear hcz7_2
      try clear hcz7_3
      try clear hcz9_0
      try clear hcz9_1
      try clear hcz9_2
      try clear hcz9_3
      try clear hfz11_0
      try clear hfz11_1
      try clear hfz11_2
      try clear hfz11_3
      try clear hfz12_0
      try clear hfz12_1
      try clear hfz12_2
      try clear hfz12_3
      try clear hfz16_0
      try clear hfz16_1
      try clear hfz16_2
      try clear hfz16_3
      try clear hfz19_0
      try clear hfz19_1
      try clear hfz19_2
      try clear hfz19_3
      try clear hfz5_0
      try clear hfz5_1
      try clear hfz5_2
      try clear hfz5_3
      try clear hfz7_0
      try clear hfz7_1
      try clear hfz7_2
      try clear hfz7_3
      try clear hfz9_0
      try clear hfz9_1
      try clear hfz9_2
      try clear hfz9_3
      try clear p2
      obtain ⟨x4_2, rfl, HA, HK2, HO_3, BK118, HB⟩ := hrel
      cases gk with
      | zero => exact absurd HA.out (by simp [spec_LineOk.l0])
      | succ k2 =>
       have H := HA.out; clear HA; simp only [spec_LineOk.l0] at H
       by_cases c21 : x4_2 < (t119.length : Int)
       ·rw [if_pos c21] at H
        have c21b0 : decide (x4_2 < (t119.length : Int)) = true := decide_eq_true c21; clear c21; have HC22 := Aside0.mk H; clear H
        go_upto_region 9 with (fail)
        repeat (go_quiet (fail); go_upto_region 9 with (fail))
        go_cut [66] (fun v66 wc => ∃ (kq : Nat) (x66_21 : Bool), v66 = .bool x66_21 ∧ Aside0 (spec_LineOk.j2 kq t119 x4_2 x66_21 a0_0 l0_1 l0_2 l0_3 = some r) ∧ Aside0 (kq ≤ k2) ∧ Aside0 (Kd.R k42 42 wc w.heap.size (fun _ => True) (.slice Ao18 t119.length co18) t119) ∧ Aside0 (wc.heap[gb118]? = some (.cells #[.int .i64 a0_0, (.slice A0_1 l0_1.length c0_1), (.slice A0_2 l0_2.length c0_2), (.slice A0_3 l0_3.length c0_3)] 29 (0, 0))) ∧ Aside0 (Below w.heap.size w wc))
        case first =>
         have H := HC22.out; clear HC22
         by_cases c23 : 0 ≤ x4_2
         ·rw [if_pos c23] at H
          have c23b0 : decide (0 ≤ x4_2) = true := decide_eq_true c23; clear c23; (first | rw [c23b0] | (simp only [i64_w, i32_w]; rw [c23b0]) | (have cz_ := c23b0; simp only [bne, gt_iff_lt, Int.natCast_pos] at cz_; first | rw [cz_] | (simp only [i64_w, i32_w]; rw [cz_])) | skip)
          by_cases c24 : ((rd_T42 t119 x4_2).f0) < 0
          ·rw [if_pos c24] at H
           have c24b0 : decide (((rd_T42 t119 x4_2).f0) < 0) = true := decide_eq_true c24; clear c24; have H' := Aside0.mk H; clear H; have p122 : 0 ≤ (x4_2 : Int) := of_decide_eq_true Z5; have q122 : x4_2 < (t119.length : Int) := of_decide_eq_true Z5; obtain ⟨ad122, e122, hx122_0, hx122_1, hx122_2, hx122_3⟩ := at_T42 (Kd.R_reads' HO_3.out).2.2 x4_2 p122 q122; cases e122; replace p122 := eq_true p122; replace q122 := eq_true q122
           go_wp2
           repeat (go_quiet (fail); try go_wp2)
           go_meet
           case rel => exact ⟨_, (true), Z6, H', ⟨by have := HJ1.out; have := HK2.out; first | omega | exact Nat.le_refl _⟩, ⟨pR_ HO_3.out⟩, ⟨pk_ BK118.out⟩, ⟨pB_ HB.out⟩⟩
          ·rw [if_neg c24] at H
           have c24b0 : decide (((rd_T42 t119 x4_2).f0) < 0) = false := decide_eq_false c24; clear c24; have H' := Aside0.mk H; clear H; have p122 : 0 ≤ (x4_2 : Int) := of_decide_eq_true Z5; have q122 : x4_2 < (t119.length : Int) := of_decide_eq_true Z5; obtain ⟨ad122, e122, hx122_0, hx122_1, hx122_2, hx122_3⟩ := at_T42 (Kd.R_reads' HO_3.out).2.2 x4_2 p122 q122; cases e122; replace p122 := eq_true p122; replace q122 := eq_true q122; have p123 : 0 ≤ (x4_2 : Int) := of_decide_eq_true Z5; have q123 : x4_2 < (t119.length : Int) := of_decide_eq_true Z5; obtain ⟨ad123, e123, hx123_0, hx123_1, hx123_2, hx123_3⟩ := at_T42 (Kd.R_reads' HO_3.out).2.2 x4_2 p123 q123; obtain rfl : ad122 = ad123 := (by injection e123); replace p123 := eq_true p123; replace q123 := eq_true q123
           go_wp2
           repeat (go_quiet (fail); try go_wp2)
           go_meet
           case rel => exact ⟨_, (decide (((rd_T42 t119 x4_2).f0) > 1000000000000)), Z6, H', ⟨by have := HJ1.out; have := HK2.out; first | omega | exact Nat.le_refl _⟩, ⟨pR_ HO_3.out⟩, ⟨pk_ BK118.out⟩, ⟨pB_ HB.out⟩⟩
         ·rw [if_neg c23] at H
          exact absurd H (by simp)
        case rest =>
         clear HC22
         try clear c1
         try clear p1
         try clear q1
         try clear hx1
         try clear c2
         try clear p2
         try clear c4
         try clear c4b0
         try clear c6
         try clear c6b0
         try clear c8
         try clear c8b0
         try clear c10
         try clear c10b0
         try clear p12
         try clear q12
         try clear hx12
         try clear c13
         try clear c20
         try clear c20b0
         try clear c21
         try clear c21b0
         try clear c23
         try clear c23b0
         try clear c24
         try clear c24b0
         try clear hcz11_0
         try clear hcz11_1
         try clear hcz11_2
         try clear hcz11_3
         try clear hcz12_0
         try clear hcz12_1
         try clear hcz12_2
         try clear hcz12_3
         try clear hcz16_0
         try clear hcz16_1
         try clear hcz16_2
         try clear hcz16_3
         try clear hcz19_0
         try clear hcz19_1
         try clear hcz19_2
         try clear hcz19_3
         try clear hcz5_0
         try clear hcz5_1
         try clear hcz5_2
         try clear hcz5_3
         try clear hcz7_0
         try clear hcz7_1
         try clear hcz7_2
         try clear hcz7_3
         try clear hcz9_0
         try clear hcz9_1
         try clear hcz9_2
         try clear hcz9_3
         try clear hfz11_0
         try clear hfz11_1
         try clear hfz11_2
         try clear hfz11_3
         try clear hfz12_0
         try clear hfz12_1
         try clear hfz12_2
         try clear hfz12_3
         try clear hfz16_0
         try clear hfz16_1
         try clear hfz16_2
         try clear hfz16_3
         try clear hfz19_0
         try clear hfz19_1
         try clear hfz19_2
         try clear hfz19_3
         try clear hfz5_0
         try clear hfz5_1
         try clear hfz5_2
         try clear hfz5_3
         try clear hfz7_0
         try clear hfz7_1
         try clear hfz7_2
         try clear hfz7_3
         try clear hfz9_0
         try clear hfz9_1
         try clear hfz9_2
         try clear hfz9_3
         try clear hx122_0
         try clear hx122_1
         try clear hx122_2
         try clear hx122_3
         try clear hx123_0
         try clear hx123_1
         try clear hx123_2
         try clear hx123_3
         try clear p122
         try clear p123
         try clear p2
         try clear q122
         try clear q123
         obtain ⟨kq, x66_21, rfl, HA, HJ21, HO_3, BK118, HB⟩ := hcut
         cases kq with
         | zero => exact absurd HA.out (by simp [spec_LineOk.j2])
         | succ kj21 =>
          have H := HA.out; clear HA; simp only [spec_LineOk.j2] at H
          by_cases c25 : x66_21 = true
          ·subst c25
           rw [if_pos rfl] at H; obtain rfl := Option.some.inj H
           go_wp2
           repeat (go_quiet (fail); try go_wp2)
           go_ret; exact ⟨by first | rfl | (simp [errW_none, errW_some] <;> rfl) | (simp [*, errW_none, errW_some] <;> rfl), by repeat (first | (with_reducible first | exact HB.out | apply below_alloc | apply pw_below_drewN | apply below_drew1 | refine below_set ?_ GE118.out) | exact HB.out)⟩
          ·replace c25 := Bool.eq_false_iff.mpr c25
           subst c25; rw [if_neg (show ¬ (false = true) by decide)] at H; have H' := Aside0.mk H; clear H
           go_wp2
           repeat (go_quiet (fail); try go_wp2)
           go_loopg [5] kj21 (fun kq v5 w' => ∃ (x5_4 : Int), v5 = .int .i64 x5_4 ∧ Aside0 (spec_LineOk.l1 kq t119 x4_2 x5_4 a0_0 l0_1 l0_2 l0_3 = some r) ∧ Aside0 (kq ≤ kj21) ∧ Aside0 (Kd.R k42 42 w' w.heap.size (fun _ => True) (.slice Ao18 t119.length co18) t119) ∧ Aside0 (w'.heap[gb118]? = some (.cells #[.int .i64 a0_0, (.slice A0_1 l0_1.length c0_1), (.slice A0_2 l0_2.length c0_2), (.slice A0_3 l0_3.length c0_3)] 29 (0, 0))) ∧ Aside0 (Below w.heap.size w w'))
           case atStart => exact ⟨(0), Z6, H', ⟨Nat.le_refl _⟩, ⟨pR_ HO_3.out⟩, ⟨pk_ BK118.out⟩, ⟨pB_ HB.out⟩⟩
           case round =>
            clear H'
            try clear c1
            try clear p1
            try clear q1
            try clear hx1
            try clear c2
            try clear p2
            try clear c4
            try clear c4b0
            try clear c6
            try clear c6b0
            try clear c8
            try clear c8b0
            try clear c10
            try clear c10b0
            try clear p12
            try clear q12
            try clear hx12
            try clear c13
            try clear c20
            try clear c20b0
            try clear c21
            try clear c21b0
            try clear c23
            try clear c23b0
            try clear c24
            try clear c24b0
            try clear c25
            try clear hcz11_0
            try clear hcz11_1
            try clear hcz11_2
            try clear hcz11_3
            try clear hcz12_0
            try clear hcz12_1
            try clear hcz12_2
            try clear hcz12_3
            try clear hcz16_0
            try clear hcz16_1
            try clear hcz16_2
            try clear hcz16_3
            try clear hcz19_0
            try clear hcz19_1
            try clear hcz19_2
            try clear hcz19_3
            try clear hcz5_0
            try clear hcz5_1
            try clear hcz5_2
            try clear hcz5_3
            try clear hcz7_0
            try clear hcz7_1
            try clear hcz7_2
            try clear hcz7_3
            try clear hcz9_0
            try clear hcz9_1
            try clear hcz9_2
            try clear hcz9_3
            try clear hfz11_0
            try clear hfz11_1
            try clear hfz11_2
            try clear hfz11_3
            try clear hfz12_0
            try clear hfz12_1
            try clear hfz12_2
            try clear hfz12_3
            try clear hfz16_0
            try clear hfz16_1
            try clear hfz16_2
            try clear hfz16_3
            try clear hfz19_0
            try clear hfz19_1
            try clear hfz19_2
            try clear hfz19_3
            try clear hfz5_0
            try clear hfz5_1
            try clear hfz5_2
            try clear hfz5_3
            try clear hfz7_0
            try clear hfz7_1
            try clear hfz7_2
            try clear hfz7_3
            try clear hfz9_0
            try clear hfz9_1
            try clear hfz9_2
            try clear hfz9_3
            try clear hx122_0
            try clear hx122_1
            try clear hx122_2
            try clear hx122_3
            try clear hx123_0
            try clear hx123_1
            try clear hx123_2
            try clear hx123_3
            try clear p1
            try clear p12
            try clear p122
            try clear p123
            try clear p2
            try clear q1
            try clear q12
            try clear q122
            try clear q123
            obtain ⟨x5_4, rfl, HA, HK4, HO_3, BK118, HB⟩ := hrel
            cases gk with
            | zero => exact absurd HA.out (by simp [spec_LineOk.l1])
            | succ k4 =>
             have H := HA.out; clear HA; simp only [spec_LineOk.l1] at H
             by_cases c26 : x5_4 < x4_2
             ·rw [if_pos c26] at H
              have c26b0 : decide (x5_4 < x4_2) = true := decide_eq_true c26; clear c26
              by_cases c27 : 0 ≤ x5_4
              ·rw [if_pos c27] at H
               have c27b0 : decide (0 ≤ x5_4) = true := decide_eq_true c27; clear c27
               by_cases c28 : x5_4 < (t119.length : Int)
               ·rw [if_pos c28] at H
                have c28b0 : decide (x5_4 < (t119.length : Int)) = true := decide_eq_true c28; clear c28
                by_cases c29 : 0 ≤ x4_2
                ·rw [if_pos c29] at H
                 have c29b0 : decide (0 ≤ x4_2) = true := decide_eq_true c29; clear c29
                 by_cases c30 : x4_2 < (t119.length : Int)
                 ·rw [if_pos c30] at H
                  have c30b0 : decide (x4_2 < (t119.length : Int)) = true := decide_eq_true c30; clear c30; have HU31 := Aside0.mk H; clear H; have p124 : 0 ≤ (x5_4 : Int) := of_decide_eq_true Z5; have q124 : x5_4 < (t119.length : Int) := of_decide_eq_true Z5; obtain ⟨ad124, e124, hx124_0, hx124_1, hx124_2, hx124_3⟩ := at_T42 (Kd.R_reads' HO_3.out).2.2 x5_4 p124 q124; cases e124; replace p124 := eq_true p124; replace q124 := eq_true q124; have p125 : 0 ≤ (x4_2 : Int) := of_decide_eq_true Z5; have q125 : x4_2 < (t119.length : Int) := of_decide_eq_true Z5; obtain ⟨ad125, e125, hx125_0, hx125_1, hx125_2, hx125_3⟩ := at_T42 (Kd.R_reads' HO_3.out).2.2 x4_2 p125 q125; obtain rfl : ad124 = ad125 := (by injection e125); replace p125 := eq_true p125; replace q125 := eq_true q125
                  go_upto_if 82 with (fail)
                  repeat (go_quiet (fail); go_upto_if 82 with (fail))
                  have H := HU31.out; clear HU31
                  by_cases c32 : ((rd_T42 t119 x5_4).f0) = ((rd_T42 t119 x4_2).f0)
                  ·rw [if_pos c32] at H
                   have c32b0 : (((rd_T42 t119 x5_4).f0) == ((rd_T42 t119 x4_2).f0)) = true := beq_iff_eq.mpr c32; have c32b1 : (((rd_T42 t119 x5_4).f0) != ((rd_T42 t119 x4_2).f0)) = false := bne_eq_false_iff_eq.mpr c32; clear c32; (first | rw [c32b0] | (simp only [i64_w, i32_w]; rw [c32b0]) | (have cz_ := c32b0; simp only [bne, gt_iff_lt, Int.natCast_pos] at cz_; first | rw [cz_] | (simp only [i64_w, i32_w]; rw [cz_])) | skip); obtain rfl := Option.some.inj H
                   go_wp2
                   repeat (go_quiet (fail); try go_wp2)
                   go_ret; exact ⟨by first | rfl | (simp [errW_none, errW_some] <;> rfl) | (simp [*, errW_none, errW_some] <;> rfl), by repeat (first | (with_reducible first | exact HB.out | apply below_alloc | apply pw_below_drewN | apply below_drew1 | refine below_set ?_ GE118.out) | exact HB.out)⟩
                  ·rw [if_neg c32] at H
                   have c32b0 : (((rd_T42 t119 x5_4).f0) == ((rd_T42 t119 x4_2).f0)) = false := beq_eq_false_iff_ne.mpr c32; have c32b1 : (((rd_T42 t119 x5_4).f0) != ((rd_T42 t119 x4_2).f0)) = true := bne_iff_ne.mpr c32; (first | rw [c32b0] | (simp only [i64_w, i32_w]; rw [c32b0]) | (have cz_ := c32b0; simp only [bne, gt_iff_lt, Int.natCast_pos] at cz_; first | rw [cz_] | (simp only [i64_w, i32_w]; rw [cz_])) | skip); have H' := Aside0.mk H; clear H
                   go_wp2
                   repeat (go_quiet (fail); try go_wp2)
                   go_roundg k4
                   case measure => have := HJ1.out; have := HK2.out; have := HJ21.out; have := HK4.out; omega
                   case rel => exact ⟨(wrap64 (x5_4 + 1)), Z6, H', ⟨by have := HJ1.out; have := HK2.out; have := HJ21.out; have := HK4.out; omega⟩, ⟨pR_ HO_3.out⟩, ⟨pk_ BK118.out⟩, ⟨pB_ HB.out⟩⟩
                 ·rw [if_neg c30] at H
                  exact absurd H (by simp)
                ·rw [if_neg c29] at H
                 exact absurd H (by simp)
               ·rw [if_neg c28] at H
                exact absurd H (by simp)
              ·rw [if_neg c27] at H
               exact absurd H (by simp)
             ·rw [if_neg c26] at H
              have c26b0 : decide (x5_4 < x4_2) = false := decide_eq_false c26; clear c26
              by_cases c33 : 0 ≤ x4_2
              ·rw [if_pos c33] at H
               have c33b0 : decide (0 ≤ x4_2) = true := decide_eq_true c33; clear c33
               by_cases c34 : x4_2 < (t119.length : Int)
               ·rw [if_pos c34] at H
                have c34b0 : decide (x4_2 < (t119.length : Int)) = true := decide_eq_true c34; clear c34; have HC35 := Aside0.mk H; clear H; have p126 : 0 ≤ (x4_2 : Int) := of_decide_eq_true Z5; have q126 : x4_2 < (t119.length : Int) := of_decide_eq_true Z5; obtain ⟨ad126, e126, hx126_0, hx126_1, hx126_2, hx126_3⟩ := at_T42 (Kd.R_reads' HO_3.out).2.2 x4_2 p126 q126; cases e126; replace p126 := eq_true p126; replace q126 := eq_true q126
                go_upto_if 92 with (first | ((with_reducible refine gate_dst (N := 6) rfl ?_); (try (refine gate_guard (by rfl) ?_; dsimp only)); refine box_event ?hg (N := 6) ?hd (cs := #[.int .i64 0, .int .i64 0, .int .i64 0]) (t := 40) ?hr ?_; (case hd => rfl); (case hg => rfl); (case hr => first | (go_simp; done) | (go_simp; rfl)); intro gb127 hg w36 hbox hb; have n_ := an_ (Kd.R_below (pR_ HO_3.out) hb) <| an_ (blk_below (pk_ BK118.out) hb) <| an_ (below_step (pB_ HB.out) hb) <| an_ (hbox) <| an_ ((by rw [hg]; exact (below_size (pB_ HB.out)) : w.heap.size ≤ gb127)) <| an_ ((by rw [hg]; exact (below_size (pB_ HB.out)) : w.heap.size ≤ gb127)) <| an_ ((by rw [hg]; exact Nat.ne_of_lt (blk_lt (pk_ BK118.out)) : gb118 ≠ gb127)) <| Aside0.mk ((by rw [hg]; exact Nat.ne_of_gt (blk_lt (pk_ BK118.out)) : gb127 ≠ gb118)); clear HO_3 BK118 HB; obtain ⟨HO_3, BK118, HB, BK127, GW127, GE127, NB118_127, NB127_118⟩ := n_; clear hb hbox hg; (try have hnb37 := NB127_118.out); (try have hnc37 := NB118_127.out); have hcz38_0 : w36.cell? ⟨gb127, 0, none⟩ = some (.int .i64 0) := (blk_cell BK127.out 0).trans rfl; have hcz38_1 : w36.cell? ⟨gb127, 1, none⟩ = some (.int .i64 0) := (blk_cell BK127.out 1).trans rfl; have hcz38_2 : w36.cell? ⟨gb127, 2, none⟩ = some (.int .i64 0) := (blk_cell BK127.out 2).trans rfl; have hfz38_0 := blk_frozen BK127.out 0; have hfz38_1 := blk_frozen BK127.out 1; have hfz38_2 := blk_frozen BK127.out 2; have hcz39_0 : w36.cell? ⟨gb118, 0, none⟩ = some (.int .i64 a0_0) := (blk_cell BK118.out 0).trans rfl; have hcz39_1 : w36.cell? ⟨gb118, 1, none⟩ = some (.slice A0_1 l0_1.length c0_1) := (blk_cell BK118.out 1).trans rfl; have hcz39_2 : w36.cell? ⟨gb118, 2, none⟩ = some (.slice A0_2 l0_2.length c0_2) := (blk_cell BK118.out 2).trans rfl; have hcz39_3 : w36.cell? ⟨gb118, 3, none⟩ = some (.slice A0_3 l0_3.length c0_3) := (blk_cell BK118.out 3).trans rfl; have hfz39_0 := blk_frozen BK118.out 0; have hfz39_1 := blk_frozen BK118.out 1; have hfz39_2 := blk_frozen BK118.out 2; have hfz39_3 := blk_frozen BK118.out 3))
                repeat (go_quiet (first | ((with_reducible refine gate_dst (N := 6) rfl ?_); (try (refine gate_guard (by rfl) ?_; dsimp only)); refine box_event ?hg (N := 6) ?hd (cs := #[.int .i64 0, .int .i64 0, .int .i64 0]) (t := 40) ?hr ?_; (case hd => rfl); (case hg => rfl); (case hr => first | (go_simp; done) | (go_simp; rfl)); intro gb127 hg w36 hbox hb; have n_ := an_ (Kd.R_below (pR_ HO_3.out) hb) <| an_ (blk_below (pk_ BK118.out) hb) <| an_ (below_step (pB_ HB.out) hb) <| an_ (hbox) <| an_ ((by rw [hg]; exact (below_size (pB_ HB.out)) : w.heap.size ≤ gb127)) <| an_ ((by rw [hg]; exact (below_size (pB_ HB.out)) : w.heap.size ≤ gb127)) <| an_ ((by rw [hg]; exact Nat.ne_of_lt (blk_lt (pk_ BK118.out)) : gb118 ≠ gb127)) <| Aside0.mk ((by rw [hg]; exact Nat.ne_of_gt (blk_lt (pk_ BK118.out)) : gb127 ≠ gb118)); clear HO_3 BK118 HB; obtain ⟨HO_3, BK118, HB, BK127, GW127, GE127, NB118_127, NB127_118⟩ := n_; clear hb hbox hg; (try have hnb37 := NB127_118.out); (try have hnc37 := NB118_127.out); have hcz38_0 : w36.cell? ⟨gb127, 0, none⟩ = some (.int .i64 0) := (blk_cell BK127.out 0).trans rfl; have hcz38_1 : w36.cell? ⟨gb127, 1, none⟩ = some (.int .i64 0) := (blk_cell BK127.out 1).trans rfl; have hcz38_2 : w36.cell? ⟨gb127, 2, none⟩ = some (.int .i64 0) := (blk_cell BK127.out 2).trans rfl; have hfz38_0 := blk_frozen BK127.out 0; have hfz38_1 := blk_frozen BK127.out 1; have hfz38_2 := blk_frozen BK127.out 2; have hcz39_0 : w36.cell? ⟨gb118, 0, none⟩ = some (.int .i64 a0_0) := (blk_cell BK118.out 0).trans rfl; have hcz39_1 : w36.cell? ⟨gb118, 1, none⟩ = some (.slice A0_1 l0_1.length c0_1) := (blk_cell BK118.out 1).trans rfl; have hcz39_2 : w36.cell? ⟨gb118, 2, none⟩ = some (.slice A0_2 l0_2.length c0_2) := (blk_cell BK118.out 2).trans rfl; have hcz39_3 : w36.cell? ⟨gb118, 3, none⟩ = some (.slice A0_3 l0_3.length c0_3) := (blk_cell BK118.out 3).trans rfl; have hfz39_0 := blk_frozen BK118.out 0; have hfz39_1 := blk_frozen BK118.out 1; have hfz39_2 := blk_frozen BK118.out 2; have hfz39_3 := blk_frozen BK118.out 3)); go_upto_if 92 with (first | ((with_reducible refine gate_dst (N := 6) rfl ?_); (try (refine gate_guard (by rfl) ?_; dsimp only)); refine box_event ?hg (N := 6) ?hd (cs := #[.int .i64 0, .int .i64 0, .int .i64 0]) (t := 40) ?hr ?_; (case hd => rfl); (case hg => rfl); (case hr => first | (go_simp; done) | (go_simp; rfl)); intro gb127 hg w36 hbox hb; have n_ := an_ (Kd.R_below (pR_ HO_3.out) hb) <| an_ (blk_below (pk_ BK118.out) hb) <| an_ (below_step (pB_ HB.out) hb) <| an_ (hbox) <| an_ ((by rw [hg]; exact (below_size (pB_ HB.out)) : w.heap.size ≤ gb127)) <| an_ ((by rw [hg]; exact (below_size (pB_ HB.out)) : w.heap.size ≤ gb127)) <| an_ ((by rw [hg]; exact Nat.ne_of_lt (blk_lt (pk_ BK118.out)) : gb118 ≠ gb127)) <| Aside0.mk ((by rw [hg]; exact Nat.ne_of_gt (blk_lt (pk_ BK118.out)) : gb127 ≠ gb118)); clear HO_3 BK118 HB; obtain ⟨HO_3, BK118, HB, BK127, GW127, GE127, NB118_127, NB127_118⟩ := n_; clear hb hbox hg; (try have hnb37 := NB127_118.out); (try have hnc37 := NB118_127.out); have hcz38_0 : w36.cell? ⟨gb127, 0, none⟩ = some (.int .i64 0) := (blk_cell BK127.out 0).trans rfl; have hcz38_1 : w36.cell? ⟨gb127, 1, none⟩ = some (.int .i64 0) := (blk_cell BK127.out 1).trans rfl; have hcz38_2 : w36.cell? ⟨gb127, 2, none⟩ = some (.int .i64 0) := (blk_cell BK127.out 2).trans rfl; have hfz38_0 := blk_frozen BK127.out 0; have hfz38_1 := blk_frozen BK127.out 1; have hfz38_2 := blk_frozen BK127.out 2; have hcz39_0 : w36.cell? ⟨gb118, 0, none⟩ = some (.int .i64 a0_0) := (blk_cell BK118.out 0).trans rfl; have hcz39_1 : w36.cell? ⟨gb118, 1, none⟩ = some (.slice A0_1 l0_1.length c0_1) := (blk_cell BK118.out 1).trans rfl; have hcz39_2 : w36.cell? ⟨gb118, 2, none⟩ = some (.slice A0_2 l0_2.length c0_2) := (blk_cell BK118.out 2).trans rfl; have hcz39_3 : w36.cell? ⟨gb118, 3, none⟩ = some (.slice A0_3 l0_3.length c0_3) := (blk_cell BK118.out 3).trans rfl; have hfz39_0 := blk_frozen BK118.out 0; have hfz39_1 := blk_frozen BK118.out 1; have hfz39_2 := blk_frozen BK118.out 2; have hfz39_3 := blk_frozen BK118.out 3)))
                (try simp only [Act.put, List.setIfInBounds_toArray, List.set_cons_zero, List.set_cons_succ])
                go_cut [7] (fun v7 wc => ∃ (kq : Nat) (x7_34 : Int), v7 = .int .i64 x7_34 ∧ Aside0 (spec_LineOk.j4 kq t119 x4_2 x7_34 a0_0 l0_1 l0_2 l0_3 ((rd_T42 t119 x4_2).f1.f0) ((rd_T42 t119 x4_2).f1.f1) ((rd_T42 t119 x4_2).f1.f2) = some r) ∧ Aside0 (kq ≤ k4) ∧ Aside0 (Kd.R k42 42 wc w.heap.size (fun _ => True) (.slice (some ad126) t119.length co18) t119) ∧ Aside0 (wc.heap[gb118]? = some (.cells #[.int .i64 a0_0, (.slice A0_1 l0_1.length c0_1), (.slice A0_2 l0_2.length c0_2), (.slice A0_3 l0_3.length c0_3)] 29 (0, 0))) ∧ Aside0 (wc.heap[gb127]? = some (.cells #[.int .i64 ((rd_T42 t119 x4_2).f1.f0), .int .i64 ((rd_T42 t119 x4_2).f1.f1), .int .i64 ((rd_T42 t119 x4_2).f1.f2)] 40 (0, 0))) ∧ Aside0 (Below w.heap.size w wc))
                case first =>
                 have H := HC35.out; clear HC35
                 by_cases c40 : x4_2 < (l0_3.length : Int)
                 ·rw [if_pos c40] at H
                  have c40b0 : decide (x4_2 < (l0_3.length : Int)) = true := decide_eq_true c40; clear c40; (first | rw [c40b0] | (simp only [i64_w, i32_w]; rw [c40b0]) | (have cz_ := c40b0; simp only [bne, gt_iff_lt, Int.natCast_pos] at cz_; first | rw [cz_] | (simp only [i64_w, i32_w]; rw [cz_])) | skip); have H' := Aside0.mk H; clear H
                  go_wp2
                  repeat (go_quiet (fail); try go_wp2)
                  go_meet
                  case rel => exact ⟨_, (2), Z6, H', ⟨by have := HJ1.out; have := HK2.out; have := HJ21.out; have := HK4.out; first | omega | exact Nat.le_refl _⟩, ⟨pR_ (Kd.R_mono (Kd.R_far (p := ⟨gb127, 2, none⟩) (Kd.R_far (p := ⟨gb127, 1, none⟩) (Kd.R_far (p := ⟨gb127, 0, none⟩) (Kd.R_types HO_3.out BK127.out (by decide)) (fun _ hk => hk.2) (.int .i64 ((rd_T42 t119 x4_2).f1.f0))) (fun _ hk => hk.2) (.int .i64 ((rd_T42 t119 x4_2).f1.f1))) (fun _ hk => hk.2) (.int .i64 ((rd_T42 t119 x4_2).f1.f2))) (fun _ hk => trivial))⟩, ⟨by (with_reducible repeat (first | refine blk_drewN ?_ _ | refine blk_drew ?_ | refine blk_alloc ?_ _)); refine blk_far ?_ NB118_127.out _; (with_reducible repeat (first | refine blk_drewN ?_ _ | refine blk_drew ?_ | refine blk_alloc ?_ _)); refine blk_far ?_ NB118_127.out _; (with_reducible repeat (first | refine blk_drewN ?_ _ | refine blk_drew ?_ | refine blk_alloc ?_ _)); refine blk_far ?_ NB118_127.out _; (with_reducible repeat (first | refine blk_drewN ?_ _ | refine blk_drew ?_ | refine blk_alloc ?_ _)); exact BK118.out⟩, ⟨by (with_reducible repeat (first | refine blk_drewN ?_ _ | refine blk_drew ?_ | refine blk_alloc ?_ _)); refine blk_put (cs := #[.int .i64 ((rd_T42 t119 x4_2).f1.f0), .int .i64 ((rd_T42 t119 x4_2).f1.f1), .int .i64 0]) ?_ 2 _ rfl; (with_reducible repeat (first | refine blk_drewN ?_ _ | refine blk_drew ?_ | refine blk_alloc ?_ _)); refine blk_put (cs := #[.int .i64 ((rd_T42 t119 x4_2).f1.f0), .int .i64 0, .int .i64 0]) ?_ 1 _ rfl; (with_reducible repeat (first | refine blk_drewN ?_ _ | refine blk_drew ?_ | refine blk_alloc ?_ _)); refine blk_put (cs := #[.int .i64 0, .int .i64 0, .int .i64 0]) ?_ 0 _ rfl; (with_reducible repeat (first | refine blk_drewN ?_ _ | refine blk_drew ?_ | refine blk_alloc ?_ _)); exact BK127.out⟩, ⟨pB_ HB.out⟩⟩
                 ·rw [if_neg c40] at H
                  have c40b0 : decide (x4_2 < (l0_3.length : Int)) = false := decide_eq_false c40; clear c40; (first | rw [c40b0] | (simp only [i64_w, i32_w]; rw [c40b0]) | (have cz_ := c40b0; simp only [bne, gt_iff_lt, Int.natCast_pos] at cz_; first | rw [cz_] | (simp only [i64_w, i32_w]; rw [cz_])) | skip)
                  by_cases c41 : x4_2 < (wrap64 ((l0_3.length : Int) + (l0_2.length : Int)))
                  ·rw [if_pos c41] at H
                   have c41b0 : decide (x4_2 < (wrap64 ((l0_3.length : Int) + (l0_2.length : Int)))) = true := decide_eq_true c41; clear c41; have H' := Aside0.mk H; clear H; (try have hnb42 := NB118_127.out); (try have hnc42 := NB127_118.out); obtain ⟨hcz43_0, hcz43_1, hcz43_2, hcz43_3, hfz43_0, hfz43_1, hfz43_2, hfz43_3⟩ := cells4 BK118.out
                   go_wp2
                   repeat (go_quiet (fail); try go_wp2)
                   go_meet
                   case rel => exact ⟨_, (1), Z6, H', ⟨by have := HJ1.out; have := HK2.out; have := HJ21.out; have := HK4.out; first | omega | exact Nat.le_refl _⟩, ⟨pR_ (Kd.R_mono (Kd.R_far (p := ⟨gb127, 2, none⟩) (Kd.R_far (p := ⟨gb127, 1, none⟩) (Kd.R_far (p := ⟨gb127, 0, none⟩) (Kd.R_types HO_3.out BK127.out (by decide)) (fun _ hk => hk.2) (.int .i64 ((rd_T42 t119 x4_2).f1.f0))) (fun _ hk => hk.2) (.int .i64 ((rd_T42 t119 x4_2).f1.f1))) (fun _ hk => hk.2) (.int .i64 ((rd_T42 t119 x4_2).f1.f2))) (fun _ hk => trivial))⟩, ⟨by (with_reducible repeat (first | refine blk_drewN ?_ _ | refine blk_drew ?_ | refine blk_alloc ?_ _)); refine blk_far ?_ NB118_127.out _; (with_reducible repeat (first | refine blk_drewN ?_ _ | refine blk_drew ?_ | refine blk_alloc ?_ _)); refine blk_far ?_ NB118_127.out _; (with_reducible repeat (first | refine blk_drewN ?_ _ | refine blk_drew ?_ | refine blk_alloc ?_ _)); refine blk_far ?_ NB118_127.out _; (with_reducible repeat (first | refine blk_drewN ?_ _ | refine blk_drew ?_ | refine blk_alloc ?_ _)); exact BK118.out⟩, ⟨by (with_reducible repeat (first | refine blk_drewN ?_ _ | refine blk_drew ?_ | refine blk_alloc ?_ _)); refine blk_put (cs := #[.int .i64 ((rd_T42 t119 x4_2).f1.f0), .int .i64 ((rd_T42 t119 x4_2).f1.f1), .int .i64 0]) ?_ 2 _ rfl; (with_reducible repeat (first | refine blk_drewN ?_ _ | refine blk_drew ?_ | refine blk_alloc ?_ _)); refine blk_put (cs := #[.int .i64 ((rd_T42 t119 x4_2).f1.f0), .int .i64 0, .int .i64 0]) ?_ 1 _ rfl; (with_reducible repeat (first | refine blk_drewN ?_ _ | refine blk_drew ?_ | refine blk_alloc ?_ _)); refine blk_put (cs := #[.int .i64 0, .int .i64 0, .int .i64 0]) ?_ 0 _ rfl; (with_reducible repeat (first | refine blk_drewN ?_ _ | refine blk_drew ?_ | refine blk_alloc ?_ _)); exact BK127.out⟩, ⟨pB_ HB.out⟩⟩
                  ·rw [if_neg c41] at H
                   have c41b0 : decide (x4_2 < (wrap64 ((l0_3.length : Int) + (l0_2.length : Int)))) = false := decide_eq_false c41; clear c41; have H' := Aside0.mk H; clear H; (try have hnb44 := NB118_127.out); (try have hnc44 := NB127_118.out); obtain ⟨hcz45_0, hcz45_1, hcz45_2, hcz45_3, hfz45_0, hfz45_1, hfz45_2, hfz45_3⟩ := cells4 BK118.out
                   go_wp2
                   repeat (go_quiet (fail); try go_wp2)
                   go_meet
                   case rel => exact ⟨_, (0), Z6, H', ⟨by have := HJ1.out; have := HK2.out; have := HJ21.out; have := HK4.out; first | omega | exact Nat.le_refl _⟩, ⟨pR_ (Kd.R_mono (Kd.R_far (p := ⟨gb127, 2, none⟩) (Kd.R_far (p := ⟨gb127, 1, none⟩) (Kd.R_far (p := ⟨gb127, 0, none⟩) (Kd.R_types HO_3.out BK127.out (by decide)) (fun _ hk => hk.2) (.int .i64 ((rd_T42 t119 x4_2).f1.f0))) (fun _ hk => hk.2) (.int .i64 ((rd_T42 t119 x4_2).f1.f1))) (fun _ hk => hk.2) (.int .i64 ((rd_T42 t119 x4_2).f1.f2))) (fun _ hk => trivial))⟩, ⟨by (with_reducible repeat (first | refine blk_drewN ?_ _ | refine blk_drew ?_ | refine blk_alloc ?_ _)); refine blk_far ?_ NB118_127.out _; (with_reducible repeat (first | refine blk_drewN ?_ _ | refine blk_drew ?_ | refine blk_alloc ?_ _)); refine blk_far ?_ NB118_127.out _; (with_reducible repeat (first | refine blk_drewN ?_ _ | refine blk_drew ?_ | refine blk_alloc ?_ _)); refine blk_far ?_ NB118_127.out _; (with_reducible repeat (first | refine blk_drewN ?_ _ | refine blk_drew ?_ | refine blk_alloc ?_ _)); exact BK118.out⟩, ⟨by (with_reducible repeat (first | refine blk_drewN ?_ _ | refine blk_drew ?_ | refine blk_alloc ?_ _)); refine blk_put (cs := #[.int .i64 ((rd_T42 t119 x4_2).f1.f0), .int .i64 ((rd_T42 t119 x4_2).f1.f1), .int .i64 0]) ?_ 2 _ rfl; (with_reducible repeat (first | refine blk_drewN ?_ _ | refine blk_drew ?_ | refine blk_alloc ?_ _)); refine blk_put (cs := #[.int .i64 ((rd_T42 t119 x4_2).f1.f0), .int .i64 0, .int .i64 0]) ?_ 1 _ rfl; (with_reducible repeat (first | refine blk_drewN ?_ _ | refine blk_drew ?_ | refine blk_alloc ?_ _)); refine blk_put (cs := #[.int .i64 0, .int .i64 0, .int .i64 0]) ?_ 0 _ rfl; (with_reducible repeat (first | refine blk_drewN ?_ _ | refine blk_drew ?_ | refine blk_alloc ?_ _)); exact BK127.out⟩, ⟨pB_ HB.out⟩⟩
                case rest =>
                 clear HC35
                 try clear c1
                 try clear p1
                 try clear q1
                 try clear hx1
                 try clear c2
                 try clear p2
                 try clear c3
                 try clear c4
                 try clear c4b0
                 try clear c6
                 try clear c6b0
                 try clear p6
                 try clear c8
                 try clear c8b0
                 try clear c10
                 try clear c10b0
                 try clear p12
                 try clear q12
                 try clear hx12
                 try clear c13
                 try clear c20
                 try clear c20b0
                 try clear c21
                 try clear c21b0
                 try clear c23
                 try clear c23b0
                 try clear c24
                 try clear c24b0
                 try clear c25
                 try clear c26
                 try clear c26b0
                 try clear c27
                 try clear c27b0
                 try clear c28
                 try clear c28b0
                 try clear c29
                 try clear c29b0
                 try clear c30
                 try clear c30b0
                 try clear c32
                 try clear c32b0
                 try clear c32b1
                 try clear c33
                 try clear c33b0
                 try clear c34
                 try clear c34b0
                 try clear c37
                 try clear c40
                 try clear c40b0
                 try clear c41
                 try clear c41b0
                 try clear c42
                 try clear c44
                 try clear hcz11_0
                 try clear hcz11_1
                 try clear hcz11_2
                 try clear hcz11_3
                 try clear hcz12_0
                 try clear hcz12_1
                 try clear hcz12_2
                 try clear hcz12_3
                 try clear hcz16_0
                 try clear hcz16_1
                 try clear hcz16_2
                 try clear hcz16_3
                 try clear hcz19_0
                 try clear hcz19_1
                 try clear hcz19_2
                 try clear hcz19_3
                 try clear hcz38_0
                 try clear hcz38_1
                 try clear hcz38_2
                 try clear hcz39_0
                 try clear hcz39_1
                 try clear hcz39_2
                 try clear hcz39_3
                 try clear hcz43_0
                 try clear hcz43_1
                 try clear hcz43_2
                 try clear hcz43_3
                 try clear hcz45_0
                 try clear hcz45_1
                 try clear hcz45_2
                 try clear hcz45_3
                 try clear hcz5_0
                 try clear hcz5_1
                 try clear hcz5_2
                 try clear hcz5_3
                 try clear hcz7_0
                 try clear hcz7_1
                 try clear hcz7_2
                 try clear hcz7_3
                 try clear hcz9_0
                 try clear hcz9_1
                 try clear hcz9_2
                 try clear hcz9_3
                 try clear hfz11_0
                 try clear hfz11_1
                 try clear hfz11_2
                 try clear hfz11_3
                 try clear hfz12_0
                 try clear hfz12_1
                 try clear hfz12_2
                 try clear hfz12_3
                 try clear hfz16_0
                 try clear hfz16_1
                 try clear hfz16_2
                 try clear hfz16_3
                 try clear hfz19_0
                 try clear hfz19_1
                 try clear hfz19_2
                 try clear hfz19_3
                 try clear hfz38_0
                 try clear hfz38_1
                 try clear hfz38_2
                 try clear hfz39_0
                 try clear hfz39_1
                 try clear hfz39_2
                 try clear hfz39_3
                 try clear hfz43_0
                 try clear hfz43_1
                 try clear hfz43_2
                 try clear hfz43_3
                 try clear hfz45_0
                 try clear hfz45_1
                 try clear hfz45_2
                 try clear hfz45_3
                 try clear hfz5_0
                 try clear hfz5_1
                 try clear hfz5_2
                 try clear hfz5_3
                 try clear hfz7_0
                 try clear hfz7_1
                 try clear hfz7_2
                 try clear hfz7_3
                 try clear hfz9_0
                 try clear hfz9_1
                 try clear hfz9_2
                 try clear hfz9_3
                 try clear hx122_0
                 try clear hx122_1
                 try clear hx122_2
                 try clear hx122_3
                 try clear hx123_0
                 try clear hx123_1
                 try clear hx123_2
                 try clear hx123_3
                 try clear hx124_0
                 try clear hx124_1
                 try clear hx124_2
                 try clear hx124_3
                 try clear hx125_0
                 try clear hx125_1
                 try clear hx125_2
                 try clear hx125_3
                 try clear hx126_0
                 try clear hx126_1
                 try clear hx126_2
                 try clear hx126_3
                 try clear p1
                 try clear p12
                 try clear p122
                 try clear p123
                 try clear p124
                 try clear p125
                 try clear p126
                 try clear p2
                 try clear q1
                 try clear q12
                 try clear q122
                 try clear q123
                 try clear q124
                 try clear q125
                 try clear q126
                 obtain ⟨kq, x7_34, rfl, HA, HJ34, HO_3, BK118, BK127, HB⟩ := hcut
                 cases kq with
                 | zero => exact absurd HA.out (by simp [spec_LineOk.j4])
                 | succ kj34 =>
                  have H := HA.out; clear HA; simp only [spec_LineOk.j4] at H; have HC46 := Aside0.mk H; clear H
                  go_upto_region 22 with (fail)
                  repeat (go_quiet (fail); go_upto_region 22 with (fail))
                  go_cut [122] (fun v122 wc => ∃ (kq : Nat) (x122_45 : Bool), v122 = .bool x122_45 ∧ Aside0 (spec_LineOk.j5 kq t119 x4_2 x7_34 x122_45 a0_0 l0_1 l0_2 l0_3 ((rd_T42 t119 x4_2).f1.f0) ((rd_T42 t119 x4_2).f1.f1) ((rd_T42 t119 x4_2).f1.f2) = some r) ∧ Aside0 (kq ≤ kj34) ∧ Aside0 (Kd.R k42 42 wc w.heap.size (fun _ => True) (.slice (some ad126) t119.length co18) t119) ∧ Aside0 (wc.heap[gb118]? = some (.cells #[.int .i64 a0_0, (.slice A0_1 l0_1.length c0_1), (.slice A0_2 l0_2.length c0_2), (.slice A0_3 l0_3.length c0_3)] 29 (0, 0))) ∧ Aside0 (wc.heap[gb127]? = some (.cells #[.int .i64 ((rd_T42 t119 x4_2).f1.f0), .int .i64 ((rd_T42 t119 x4_2).f1.f1), .int .i64 ((rd_T42 t119 x4_2).f1.f2)] 40 (0, 0))) ∧ Aside0 (Below w.heap.size w wc))
                  case first =>
                   have H := HC46.out; clear HC46
                   by_cases c47 : x7_34 > 0
                   ·rw [if_pos c47] at H
                    have c47b0 : decide (0 < x7_34) = true := decide_eq_true c47; clear c47; (first | rw [c47b0] | (simp only [i64_w, i32_w]; rw [c47b0]) | (have cz_ := c47b0; simp only [bne, gt_iff_lt, Int.natCast_pos] at cz_; first | rw [cz_] | (simp only [i64_w, i32_w]; rw [cz_])) | skip)
                    by_cases c48 : ((rd_T42 t119 x4_2).f1.f0) = 0
                    ·rw [if_pos c48] at H
                     have c48b0 : (((rd_T42 t119 x4_2).f1.f0) == 0) = true := beq_iff_eq.mpr c48; have c48b1 : (((rd_T42 t119 x4_2).f1.f0) != 0) = false := bne_eq_false_iff_eq.mpr c48; clear c48
                     by_cases c49 : x7_34 = 0
                     ·rw [if_pos c49] at H
                      have c49b0 : (x7_34 == 0) = true := beq_iff_eq.mpr c49; have c49b1 : (x7_34 != 0) = false := bne_eq_false_iff_eq.mpr c49; clear c49
                      by_cases c50 : ((rd_T42 t119 x4_2).f1.f0) < 1
                      ·rw [if_pos c50] at H
                       have c50b0 : decide (((rd_T42 t119 x4_2).f1.f0) < 1) = true := decide_eq_true c50; clear c50; have H' := Aside0.mk H; clear H; (try have hnb51 := NB127_118.out); (try have hnc51 := NB118_127.out); obtain ⟨hcz52_0, hcz52_1, hcz52_2, hfz52_0, hfz52_1, hfz52_2⟩ := cells3 BK127.out
                       go_wp2
                       repeat (go_quiet (fail); try go_wp2)
                       go_meet
                       case rel => exact ⟨_, (true), Z6, H', ⟨by have := HJ1.out; have := HK2.out; have := HJ21.out; have := HK4.out; have := HJ34.out; first | omega | exact Nat.le_refl _⟩, ⟨pR_ HO_3.out⟩, ⟨pk_ BK118.out⟩, ⟨pk_ BK127.out⟩, ⟨pB_ HB.out⟩⟩
                      ·rw [if_neg c50] at H
                       have c50b0 : decide (((rd_T42 t119 x4_2).f1.f0) < 1) = false := decide_eq_false c50; clear c50; have H' := Aside0.mk H; clear H; (try have hnb53 := NB127_118.out); (try have hnc53 := NB118_127.out); obtain ⟨hcz54_0, hcz54_1, hcz54_2, hfz54_0, hfz54_1, hfz54_2⟩ := cells3 BK127.out
                       go_wp2
                       repeat (go_quiet (fail); try go_wp2)
                       go_meet
                       case rel => exact ⟨_, (decide (((rd_T42 t119 x4_2).f1.f0) > 1000)), Z6, H', ⟨by have := HJ1.out; have := HK2.out; have := HJ21.out; have := HK4.out; have := HJ34.out; first | omega | exact Nat.le_refl _⟩, ⟨pR_ HO_3.out⟩, ⟨pk_ BK118.out⟩, ⟨pk_ BK127.out⟩, ⟨pB_ HB.out⟩⟩
                     ·rw [if_neg c49] at H
                      have c49b0 : (x7_34 == 0) = false := beq_eq_false_iff_ne.mpr c49; have c49b1 : (x7_34 != 0) = true := bne_iff_ne.mpr c49; have H' := Aside0.mk H; clear H; (try have hnb55 := NB127_118.out); (try have hnc55 := NB118_127.out); obtain ⟨hcz56_0, hcz56_1, hcz56_2, hfz56_0, hfz56_1, hfz56_2⟩ := cells3 BK127.out
                      go_wp2
                      repeat (go_quiet (fail); try go_wp2)
                      go_meet
                      case rel => exact ⟨_, (false), Z6, H', ⟨by have := HJ1.out; have := HK2.out; have := HJ21.out; have := HK4.out; have := HJ34.out; first | omega | exact Nat.le_refl _⟩, ⟨pR_ HO_3.out⟩, ⟨pk_ BK118.out⟩, ⟨pk_ BK127.out⟩, ⟨pB_ HB.out⟩⟩
                    ·rw [if_neg c48] at H
                     have c48b0 : (((rd_T42 t119 x4_2).f1.f0) == 0) = false := beq_eq_false_iff_ne.mpr c48; have c48b1 : (((rd_T42 t119 x4_2).f1.f0) != 0) = true := bne_iff_ne.mpr c48; have H' := Aside0.mk H; clear H; (try have hnb57 := NB127_118.out); (try have hnc57 := NB118_127.out); obtain ⟨hcz58_0, hcz58_1, hcz58_2, hfz58_0, hfz58_1, hfz58_2⟩ := cells3 BK127.out
                     go_wp2
                     repeat (go_quiet (fail); try go_wp2)
                     go_meet
                     case rel => exact ⟨_, (true), Z6, H', ⟨by have := HJ1.out; have := HK2.out; have := HJ21.out; have := HK4.out; have := HJ34.out; first | omega | exact Nat.le_refl _⟩, ⟨pR_ HO_3.out⟩, ⟨pk_ BK118.out⟩, ⟨pk_ BK127.out⟩, ⟨pB_ HB.out⟩⟩
                   ·rw [if_neg c47] at H
                    have c47b0 : decide (0 < x7_34) = false := decide_eq_false c47; clear c47; (first | rw [c47b0] | (simp only [i64_w, i32_w]; rw [c47b0]) | (have cz_ := c47b0; simp only [bne, gt_iff_lt, Int.natCast_pos] at cz_; first | rw [cz_] | (simp only [i64_w, i32_w]; rw [cz_])) | skip)
                    by_cases c59 : x7_34 = 0
                    ·rw [if_pos c59] at H
                     have c59b0 : (x7_34 == 0) = true := beq_iff_eq.mpr c59; have c59b1 : (x7_34 != 0) = false := bne_eq_false_iff_eq.mpr c59; clear c59
                     by_cases c60 : ((rd_T42 t119 x4_2).f1.f0) < 1
                     ·rw [if_pos c60] at H
                      have c60b0 : decide (((rd_T42 t119 x4_2).f1.f0) < 1) = true := decide_eq_true c60; clear c60; have H' := Aside0.mk H; clear H; (try have hnb61 := NB127_118.out); (try have hnc61 := NB118_127.out); obtain ⟨hcz62_0, hcz62_1, hcz62_2, hfz62_0, hfz62_1, hfz62_2⟩ := cells3 BK127.out
                      go_wp2
                      repeat (go_quiet (fail); try go_wp2)
                      go_meet
                      case rel => exact ⟨_, (true), Z6, H', ⟨by have := HJ1.out; have := HK2.out; have := HJ21.out; have := HK4.out; have := HJ34.out; first | omega | exact Nat.le_refl _⟩, ⟨pR_ HO_3.out⟩, ⟨pk_ BK118.out⟩, ⟨pk_ BK127.out⟩, ⟨pB_ HB.out⟩⟩
                     ·rw [if_neg c60] at H
                      have c60b0 : decide (((rd_T42 t119 x4_2).f1.f0) < 1) = false := decide_eq_false c60; clear c60; have H' := Aside0.mk H; clear H; (try have hnb63 := NB127_118.out); (try have hnc63 := NB118_127.out); obtain ⟨hcz64_0, hcz64_1, hcz64_2, hfz64_0, hfz64_1, hfz64_2⟩ := cells3 BK127.out
                      go_wp2
                      repeat (go_quiet (fail); try go_wp2)
                      go_meet
                      case rel => exact ⟨_, (decide (((rd_T42 t119 x4_2).f1.f0) > 1000)), Z6, H', ⟨by have := HJ1.out; have := HK2.out; have := HJ21.out; have := HK4.out; have := HJ34.out; first | omega | exact Nat.le_refl _⟩, ⟨pR_ HO_3.out⟩, ⟨pk_ BK118.out⟩, ⟨pk_ BK127.out⟩, ⟨pB_ HB.out⟩⟩
                    ·rw [if_neg c59] at H
                     have c59b0 : (x7_34 == 0) = false := beq_eq_false_iff_ne.mpr c59; have c59b1 : (x7_34 != 0) = true := bne_iff_ne.mpr c59; have H' := Aside0.mk H; clear H
                     go_wp2
                     repeat (go_quiet (fail); try go_wp2)
                     go_meet
                     case rel => exact ⟨_, (false), Z6, H', ⟨by have := HJ1.out; have := HK2.out; have := HJ21.out; have := HK4.out; have := HJ34.out; first | omega | exact Nat.le_refl _⟩, ⟨pR_ HO_3.out⟩, ⟨pk_ BK118.out⟩, ⟨pk_ BK127.out⟩, ⟨pB_ HB.out⟩⟩
                  case rest =>
                   clear HC46
                   try clear c1
                   try clear p1
                   try clear q1
                   try clear hx1
                   try clear c2
                   try clear p2
                   try clear c3
                   try clear c4
                   try clear c4b0
                   try clear c5
                   try clear c6
                   try clear c6b0
                   try clear p6
                   try clear c8
                   try clear c8b0
                   try clear c10
                   try clear c10b0
                   try clear p12
                   try clear q12
                   try clear hx12
                   try clear c13
                   try clear c20
                   try clear c20b0
                   try clear c21
                   try clear c21b0
                   try clear c23
                   try clear c23b0
                   try clear c24
                   try clear c24b0
                   try clear c25
                   try clear c26
                   try clear c26b0
                   try clear c27
                   try clear c27b0
                   try clear c28
                   try clear c28b0
                   try clear c29
                   try clear c29b0
                   try clear c30
                   try clear c30b0
                   try clear c32
                   try clear c32b0
                   try clear c32b1
                   try clear c33
                   try clear c33b0
                   try clear c34
                   try clear c34b0
                   try clear c37
                   try clear c40
                   try clear c40b0
                   try clear c41
                   try clear c41b0
                   try clear c42
                   try clear c44
                   try clear c47
                   try clear c47b0
                   try clear c48
                   try clear c48b0
                   try clear c48b1
                   try clear c49
                   try clear c49b0
                   try clear c49b1
                   try clear c50
                   try clear c50b0
                   try clear c51
                   try clear c53
                   try clear c55
                   try clear c57
                   try clear c59
                   try clear c59b0
                   try clear c59b1
                   try clear c60
                   try clear c60b0
                   try clear c61
                   try clear c63
                   try clear p64
                   try clear hcz11_0
                   try clear hcz11_1
                   try clear hcz11_2
                   try clear hcz11_3
                   try clear hcz12_0
                   try clear hcz12_1
                   try clear hcz12_2
                   try clear hcz12_3
                   try clear hcz16_0
                   try clear hcz16_1
                   try clear hcz16_2
                   try clear hcz16_3
                   try clear hcz19_0
                   try clear hcz19_1
                   try clear hcz19_2
                   try clear hcz19_3
                   try clear hcz38_0
                   try clear hcz38_1
                   try clear hcz38_2
                   try clear hcz39_0
                   try clear hcz39_1
                   try clear hcz39_2
                   try clear hcz39_3
                   try clear hcz43_0
                   try clear hcz43_1
                   try clear hcz43_2
                   try clear hcz43_3
                   try clear hcz45_0
                   try clear hcz45_1
                   try clear hcz45_2
                   try clear hcz45_3
                   try clear hcz52_0
                   try clear hcz52_1
                   try clear hcz52_2
                   try clear hcz54_0
                   try clear hcz54_1
                   try clear hcz54_2
                   try clear hcz56_0
                   try clear hcz56_1
                   try clear hcz56_2
                   try clear hcz58_0
                   try clear hcz58_1
                   try clear hcz58_2
                   try clear hcz5_0
                   try clear hcz5_1
                   try clear hcz5_2
                   try clear hcz5_3
                   try clear hcz62_0
                   try clear hcz62_1
                   try clear hcz62_2
                   try clear hcz64_0
                   try clear hcz64_1
                   try clear hcz64_2
                   try clear hcz7_0
                   try clear hcz7_1
                   try clear hcz7_2
                   try clear hcz7_3
                   try clear hcz9_0
                   try clear hcz9_1
                   try clear hcz9_2
                   try clear hcz9_3
                   try clear hfz11_0
                   try clear hfz11_1
                   try clear hfz11_2
                   try clear hfz11_3
                   try clear hfz12_0
                   try clear hfz12_1
                   try clear hfz12_2
                   try clear hfz12_3
                   try clear hfz16_0
                   try clear hfz16_1
                   try clear hfz16_2
                   try clear hfz16_3
                   try clear hfz19_0
                   try clear hfz19_1
                   try clear hfz19_2
                   try clear hfz19_3
                   try clear hfz38_0
                   try clear hfz38_1
                   try clear hfz38_2
                   try clear hfz39_0
                   try clear hfz39_1
                   try clear hfz39_2
                   try clear hfz39_3
                   try clear hfz43_0
                   try clear hfz43_1
                   try clear hfz43_2
                   try clear hfz43_3
                   try clear hfz45_0
                   try clear hfz45_1
                   try clear hfz45_2
                   try clear hfz45_3
                   try clear hfz52_0
                   try clear hfz52_1
                   try clear hfz52_2
                   try clear hfz54_0
                   try clear hfz54_1
                   try clear hfz54_2
                   try clear hfz56_0
                   try clear hfz56_1
                   try clear hfz56_2
                   try clear hfz58_0
                   try clear hfz58_1
                   try clear hfz58_2
                   try clear hfz5_0
                   try clear hfz5_1
                   try clear hfz5_2
                   try clear hfz5_3
                   try clear hfz62_0
                   try clear hfz62_1
                   try clear hfz62_2
                   try clear hfz64_0
                   try clear hfz64_1
                   try clear hfz64_2
                   try clear hfz7_0
                   try clear hfz7_1
                   try clear hfz7_2
                   try clear hfz7_3
                   try clear hfz9_0
                   try clear hfz9_1
                   try clear hfz9_2
                   try clear hfz9_3
                   try clear hx122_0
                   try clear hx122_1
                   try clear hx122_2
                   try clear hx122_3
                   try clear hx123_0
                   try clear hx123_1
                   try clear hx123_2
                   try clear hx123_3
                   try clear hx124_0
                   try clear hx124_1
                   try clear hx124_2
                   try clear hx124_3
                   try clear hx125_0
                   try clear hx125_1
                   try clear hx125_2
                   try clear hx125_3
                   try clear hx126_0
                   try clear hx126_1
                   try clear hx126_2
                   try clear hx126_3
                   try clear p1
                   try clear p12
                   try clear p122
                   try clear p123
                   try clear p124
                   try clear p125
                   try clear p126
                   try clear p2
                   try clear p6
                   try clear q1
                   try clear q12
                   try clear q122
                   try clear q123
                   try clear q124
                   try clear q125
                   try clear q126
                   obtain ⟨kq, x122_45, rfl, HA, HJ45, HO_3, BK118, BK127, HB⟩ := hcut
                   cases kq with
                   | zero => exact absurd HA.out (by simp [spec_LineOk.j5])
                   | succ kj45 =>
                    have H := HA.out; clear HA; simp only [spec_LineOk.j5] at H
                    by_cases c65 : x122_45 = true
                    ·subst c65
                     rw [if_pos rfl] at H; obtain rfl := Option.some.inj H
                     go_wp2
                     repeat (go_quiet (fail); try go_wp2)
                     go_ret; exact ⟨by first | rfl | (simp [errW_none, errW_some] <;> rfl) | (simp [*, errW_none, errW_some] <;> rfl), by repeat (first | (with_reducible first | exact HB.out | apply below_alloc | apply pw_below_drewN | apply below_drew1 | refine below_set ?_ GE118.out | refine below_set ?_ GE127.out) | exact HB.out)⟩
                    ·replace c65 := Bool.eq_false_iff.mpr c65
                     subst c65; rw [if_neg (show ¬ (false = true) by decide)] at H
                     by_cases c66 : x7_34 = 2
                     ·rw [if_pos c66] at H
                      have c66b0 : (x7_34 == 2) = true := beq_iff_eq.mpr c66; have c66b1 : (x7_34 != 2) = false := bne_eq_false_iff_eq.mpr c66; clear c66
                      by_cases c67 : ((rd_T42 t119 x4_2).f1.f1) = 0
                      ·rw [if_pos c67] at H
                       have c67b0 : (((rd_T42 t119 x4_2).f1.f1) == 0) = true := beq_iff_eq.mpr c67; have c67b1 : (((rd_T42 t119 x4_2).f1.f1) != 0) = false := bne_eq_false_iff_eq.mpr c67; clear c67
                       by_cases c68 : x7_34 < 2
                       ·rw [if_pos c68] at H
                        have c68b0 : decide (x7_34 < 2) = true := decide_eq_true c68; clear c68
                        by_cases c69 : ((rd_T42 t119 x4_2).f1.f1) < 1
                        ·rw [if_pos c69] at H
                         have c69b0 : decide (((rd_T42 t119 x4_2).f1.f1) < 1) = true := decide_eq_true c69; clear c69; obtain rfl := Option.some.inj H; (try have hnb70 := NB127_118.out); (try have hnc70 := NB118_127.out); obtain ⟨hcz71_0, hcz71_1, hcz71_2, hfz71_0, hfz71_1, hfz71_2⟩ := cells3 BK127.out
                         go_wp2
                         repeat (go_quiet (fail); try go_wp2)
                         go_ret; exact ⟨by first | rfl | (simp [errW_none, errW_some] <;> rfl) | (simp [*, errW_none, errW_some] <;> rfl), by repeat (first | (with_reducible first | exact HB.out | apply below_alloc | apply pw_below_drewN | apply below_drew1 | refine below_set ?_ GE118.out | refine below_set ?_ GE127.out) | exact HB.out)⟩
                        ·rw [if_neg c69] at H
                         have c69b0 : decide (((rd_T42 t119 x4_2).f1.f1) < 1) = false := decide_eq_false c69; clear c69
                         by_cases c72 : ((rd_T42 t119 x4_2).f1.f1) > 1000
                         ·rw [if_pos c72] at H
                          have c72b0 : decide (1000 < ((rd_T42 t119 x4_2).f1.f1)) = true := decide_eq_true c72; clear c72; obtain rfl := Option.some.inj H; (try have hnb73 := NB127_118.out); (try have hnc73 := NB118_127.out); obtain ⟨hcz74_0, hcz74_1, hcz74_2, hfz74_0, hfz74_1, hfz74_2⟩ := cells3 BK127.out
                          go_wp2
                          repeat (go_quiet (fail); try go_wp2)
                          go_ret; exact ⟨by first | rfl | (simp [errW_none, errW_some] <;> rfl) | (simp [*, errW_none, errW_some] <;> rfl), by repeat (first | (with_reducible first | exact HB.out | apply below_alloc | apply pw_below_drewN | apply below_drew1 | refine below_set ?_ GE118.out | refine below_set ?_ GE127.out) | exact HB.out)⟩
                         ·rw [if_neg c72] at H
                          have c72b0 : decide (1000 < ((rd_T42 t119 x4_2).f1.f1)) = false := decide_eq_false c72; clear c72
                          by_cases c75 : ((rd_T42 t119 x4_2).f1.f2) < 1
                          ·rw [if_pos c75] at H
                           have c75b0 : decide (((rd_T42 t119 x4_2).f1.f2) < 1) = true := decide_eq_true c75; clear c75; obtain rfl := Option.some.inj H; (try have hnb76 := NB127_118.out); (try have hnc76 := NB118_127.out); obtain ⟨hcz77_0, hcz77_1, hcz77_2, hfz77_0, hfz77_1, hfz77_2⟩ := cells3 BK127.out
                           go_wp2
                           repeat (go_quiet (fail); try go_wp2)
                           go_ret; exact ⟨by first | rfl | (simp [errW_none, errW_some] <;> rfl) | (simp [*, errW_none, errW_some] <;> rfl), by repeat (first | (with_reducible first | exact HB.out | apply below_alloc | apply pw_below_drewN | apply below_drew1 | refine below_set ?_ GE118.out | refine below_set ?_ GE127.out) | exact HB.out)⟩
                          ·rw [if_neg c75] at H
                           have c75b0 : decide (((rd_T42 t119 x4_2).f1.f2) < 1) = false := decide_eq_false c75; clear c75
                           by_cases c78 : ((rd_T42 t119 x4_2).f1.f2) > 1000
                           ·rw [if_pos c78] at H
                            have c78b0 : decide (1000 < ((rd_T42 t119 x4_2).f1.f2)) = true := decide_eq_true c78; clear c78; obtain rfl := Option.some.inj H; (try have hnb79 := NB127_118.out); (try have hnc79 := NB118_127.out); obtain ⟨hcz80_0, hcz80_1, hcz80_2, hfz80_0, hfz80_1, hfz80_2⟩ := cells3 BK127.out
                            go_wp2
                            repeat (go_quiet (fail); try go_wp2)
                            go_ret; exact ⟨by first | rfl | (simp [errW_none, errW_some] <;> rfl) | (simp [*, errW_none, errW_some] <;> rfl), by repeat (first | (with_reducible first | exact HB.out | apply below_alloc | apply pw_below_drewN | apply below_drew1 | refine below_set ?_ GE118.out | refine below_set ?_ GE127.out) | exact HB.out)⟩
                           ·rw [if_neg c78] at H
                            have c78b0 : decide (1000 < ((rd_T42 t119 x4_2).f1.f2)) = false := decide_eq_false c78; clear c78; have H' := Aside0.mk H; clear H; (try have hnb81 := NB127_118.out); (try have hnc81 := NB118_127.out); obtain ⟨hcz82_0, hcz82_1, hcz82_2, hfz82_0, hfz82_1, hfz82_2⟩ := cells3 BK127.out
                            go_wp2
                            repeat (go_quiet (fail); try go_wp2)
                            go_roundg kj45
                            case measure => have := HJ1.out; have := HK2.out; have := HJ21.out; have := HK4.out; have := HJ34.out; have := HJ45.out; omega
                            case rel => exact ⟨(wrap64 (x4_2 + 1)), Z6, H', ⟨by have := HJ1.out; have := HK2.out; have := HJ21.out; have := HK4.out; have := HJ34.out; have := HJ45.out; omega⟩, ⟨pR_ HO_3.out⟩, ⟨pk_ BK118.out⟩, ⟨pB_ HB.out⟩⟩
                       ·rw [if_neg c68] at H
                        have c68b0 : decide (x7_34 < 2) = false := decide_eq_false c68; clear c68
                        by_cases c83 : ((rd_T42 t119 x4_2).f1.f2) < 1
                        ·rw [if_pos c83] at H
                         have c83b0 : decide (((rd_T42 t119 x4_2).f1.f2) < 1) = true := decide_eq_true c83; clear c83; obtain rfl := Option.some.inj H; (try have hnb84 := NB127_118.out); (try have hnc84 := NB118_127.out); obtain ⟨hcz85_0, hcz85_1, hcz85_2, hfz85_0, hfz85_1, hfz85_2⟩ := cells3 BK127.out
                         go_wp2
                         repeat (go_quiet (fail); try go_wp2)
                         go_ret; exact ⟨by first | rfl | (simp [errW_none, errW_some] <;> rfl) | (simp [*, errW_none, errW_some] <;> rfl), by repeat (first | (with_reducible first | exact HB.out | apply below_alloc | apply pw_below_drewN | apply below_drew1 | refine below_set ?_ GE118.out | refine below_set ?_ GE127.out) | exact HB.out)⟩
                        ·rw [if_neg c83] at H
                         have c83b0 : decide (((rd_T42 t119 x4_2).f1.f2) < 1) = false := decide_eq_false c83; clear c83
                         by_cases c86 : ((rd_T42 t119 x4_2).f1.f2) > 1000
                         ·rw [if_pos c86] at H
                          have c86b0 : decide (1000 < ((rd_T42 t119 x4_2).f1.f2)) = true := decide_eq_true c86; clear c86; obtain rfl := Option.some.inj H; (try have hnb87 := NB127_118.out); (try have hnc87 := NB118_127.out); obtain ⟨hcz88_0, hcz88_1, hcz88_2, hfz88_0, hfz88_1, hfz88_2⟩ := cells3 BK127.out
                          go_wp2
                          repeat (go_quiet (fail); try go_wp2)
                          go_ret; exact ⟨by first | rfl | (simp [errW_none, errW_some] <;> rfl) | (simp [*, errW_none, errW_some] <;> rfl), by repeat (first | (with_reducible first | exact HB.out | apply below_alloc | apply pw_below_drewN | apply below_drew1 | refine below_set ?_ GE118.out | refine below_set ?_ GE127.out) | exact HB.out)⟩
                         ·rw [if_neg c86] at H
                          have c86b0 : decide (1000 < ((rd_T42 t119 x4_2).f1.f2)) = false := decide_eq_false c86; clear c86; have H' := Aside0.mk H; clear H; (try have hnb89 := NB127_118.out); (try have hnc89 := NB118_127.out); obtain ⟨hcz90_0, hcz90_1, hcz90_2, hfz90_0, hfz90_1, hfz90_2⟩ := cells3 BK127.out
                          go_wp2
                          repeat (go_quiet (fail); try go_wp2)
                          go_roundg kj45
                          case measure => have := HJ1.out; have := HK2.out; have := HJ21.out; have := HK4.out; have := HJ34.out; have := HJ45.out; omega
                          case rel => exact ⟨(wrap64 (x4_2 + 1)), Z6, H', ⟨by have := HJ1.out; have := HK2.out; have := HJ21.out; have := HK4.out; have := HJ34.out; have := HJ45.out; omega⟩, ⟨pR_ HO_3.out⟩, ⟨pk_ BK118.out⟩, ⟨pB_ HB.out⟩⟩
                      ·rw [if_neg c67] at H
                       have c67b0 : (((rd_T42 t119 x4_2).f1.f1) == 0) = false := beq_eq_false_iff_ne.mpr c67; have c67b1 : (((rd_T42 t119 x4_2).f1.f1) != 0) = true := bne_iff_ne.mpr c67; obtain rfl := Option.some.inj H; (try have hnb91 := NB127_118.out); (try have hnc91 := NB118_127.out); obtain ⟨hcz92_0, hcz92_1, hcz92_2, hfz92_0, hfz92_1, hfz92_2⟩ := cells3 BK127.out
                       go_wp2
                       repeat (go_quiet (fail); try go_wp2)
                       go_ret; exact ⟨by first | rfl | (simp [errW_none, errW_some] <;> rfl) | (simp [*, errW_none, errW_some] <;> rfl), by repeat (first | (with_reducible first | exact HB.out | apply below_alloc | apply pw_below_drewN | apply below_drew1 | refine below_set ?_ GE118.out | refine below_set ?_ GE127.out) | exact HB.out)⟩
                     ·rw [if_neg c66] at H
                      have c66b0 : (x7_34 == 2) = false := beq_eq_false_iff_ne.mpr c66; have c66b1 : (x7_34 != 2) = true := bne_iff_ne.mpr c66
                      by_cases c93 : x7_34 < 2
                      ·rw [if_pos c93] at H
                       have c93b0 : decide (x7_34 < 2) = true := decide_eq_true c93; clear c93
                       by_cases c94 : ((rd_T42 t119 x4_2).f1.f1) < 1
                       ·rw [if_pos c94] at H
                        have c94b0 : decide (((rd_T42 t119 x4_2).f1.f1) < 1) = true := decide_eq_true c94; clear c94; obtain rfl := Option.some.inj H; (try have hnb95 := NB127_118.out); (try have hnc95 := NB118_127.out); obtain ⟨hcz96_0, hcz96_1, hcz96_2, hfz96_0, hfz96_1, hfz96_2⟩ := cells3 BK127.out
                        go_wp2
                        repeat (go_quiet (fail); try go_wp2)
                        go_ret; exact ⟨by first | rfl | (simp [errW_none, errW_some] <;> rfl) | (simp [*, errW_none, errW_some] <;> rfl), by repeat (first | (with_reducible first | exact HB.out | apply below_alloc | apply pw_below_drewN | apply below_drew1 | refine below_set ?_ GE118.out | refine below_set ?_ GE127.out) | exact HB.out)⟩
                       ·rw [if_neg c94] at H
                        have c94b0 : decide (((rd_T42 t119 x4_2).f1.f1) < 1) = false := decide_eq_false c94; clear c94
                        by_cases c97 : ((rd_T42 t119 x4_2).f1.f1) > 1000
                        ·rw [if_pos c97] at H
                         have c97b0 : decide (1000 < ((rd_T42 t119 x4_2).f1.f1)) = true := decide_eq_true c97; clear c97; obtain rfl := Option.some.inj H; (try have hnb98 := NB127_118.out); (try have hnc98 := NB118_127.out); obtain ⟨hcz99_0, hcz99_1, hcz99_2, hfz99_0, hfz99_1, hfz99_2⟩ := cells3 BK127.out
                         go_wp2
                         repeat (go_quiet (fail); try go_wp2)
                         go_ret; exact ⟨by first | rfl | (simp [errW_none, errW_some] <;> rfl) | (simp [*, errW_none, errW_some] <;> rfl), by repeat (first | (with_reducible first | exact HB.out | apply below_alloc | apply pw_below_drewN | apply below_drew1 | refine below_set ?_ GE118.out | refine below_set ?_ GE127.out) | exact HB.out)⟩
                        ·rw [if_neg c97] at H
                         have c97b0 : decide (1000 < ((rd_T42 t119 x4_2).f1.f1)) = false := decide_eq_false c97; clear c97
                         by_cases c100 : ((rd_T42 t119 x4_2).f1.f2) < 1
                         ·rw [if_pos c100] at H
                          have c100b0 : decide (((rd_T42 t119 x4_2).f1.f2) < 1) = true := decide_eq_true c100; clear c100; obtain rfl := Option.some.inj H; (try have hnb101 := NB127_118.out); (try have hnc101 := NB118_127.out); obtain ⟨hcz102_0, hcz102_1, hcz102_2, hfz102_0, hfz102_1, hfz102_2⟩ := cells3 BK127.out
                          go_wp2
                          repeat (go_quiet (fail); try go_wp2)
                          go_ret; exact ⟨by first | rfl | (simp [errW_none, errW_some] <;> rfl) | (simp [*, errW_none, errW_some] <;> rfl), by repeat (first | (with_reducible first | exact HB.out | apply below_alloc | apply pw_below_drewN | apply below_drew1 | refine below_set ?_ GE118.out | refine below_set ?_ GE127.out) | exact HB.out)⟩
                         ·rw [if_neg c100] at H
                          have c100b0 : decide (((rd_T42 t119 x4_2).f1.f2) < 1) = false := decide_eq_false c100; clear c100
                          by_cases c103 : ((rd_T42 t119 x4_2).f1.f2) > 1000
                          ·rw [if_pos c103] at H
                           have c103b0 : decide (1000 < ((rd_T42 t119 x4_2).f1.f2)) = true := decide_eq_true c103; clear c103; obtain rfl := Option.some.inj H; (try have hnb104 := NB127_118.out); (try have hnc104 := NB118_127.out); obtain ⟨hcz105_0, hcz105_1, hcz105_2, hfz105_0, hfz105_1, hfz105_2⟩ := cells3 BK127.out
                           go_wp2
                           repeat (go_quiet (fail); try go_wp2)
                           go_ret; exact ⟨by first | rfl | (simp [errW_none, errW_some] <;> rfl) | (simp [*, errW_none, errW_some] <;> rfl), by repeat (first | (with_reducible first | exact HB.out | apply below_alloc | apply pw_below_drewN | apply below_drew1 | refine below_set ?_ GE118.out | refine below_set ?_ GE127.out) | exact HB.out)⟩
                          ·rw [if_neg c103] at H
                           have c103b0 : decide (1000 < ((rd_T42 t119 x4_2).f1.f2)) = false := decide_eq_false c103; clear c103; have H' := Aside0.mk H; clear H; (try have hnb106 := NB127_118.out); (try have hnc106 := NB118_127.out); obtain ⟨hcz107_0, hcz107_1, hcz107_2, hfz107_0, hfz107_1, hfz107_2⟩ := cells3 BK127.out
                           go_wp2
                           repeat (go_quiet (fail); try go_wp2)
                           go_roundg kj45
                           case measure => have := HJ1.out; have := HK2.out; have := HJ21.out; have := HK4.out; have := HJ34.out; have := HJ45.out; omega
                           case rel => exact ⟨(wrap64 (x4_2 + 1)), Z6, H', ⟨by have := HJ1.out; have := HK2.out; have := HJ21.out; have := HK4.out; have := HJ34.out; have := HJ45.out; omega⟩, ⟨pR_ HO_3.out⟩, ⟨pk_ BK118.out⟩, ⟨pB_ HB.out⟩⟩
                      ·rw [if_neg c93] at H
                       have c93b0 : decide (x7_34 < 2) = false := decide_eq_false c93; clear c93
                       by_cases c108 : ((rd_T42 t119 x4_2).f1.f2) < 1
                       ·rw [if_pos c108] at H
                        have c108b0 : decide (((rd_T42 t119 x4_2).f1.f2) < 1) = true := decide_eq_true c108; clear c108; obtain rfl := Option.some.inj H; (try have hnb109 := NB127_118.out); (try have hnc109 := NB118_127.out); obtain ⟨hcz110_0, hcz110_1, hcz110_2, hfz110_0, hfz110_1, hfz110_2⟩ := cells3 BK127.out
                        go_wp2
                        repeat (go_quiet (fail); try go_wp2)
                        go_ret; exact ⟨by first | rfl | (simp [errW_none, errW_some] <;> rfl) | (simp [*, errW_none, errW_some] <;> rfl), by repeat (first | (with_reducible first | exact HB.out | apply below_alloc | apply pw_below_drewN | apply below_drew1 | refine below_set ?_ GE118.out | refine below_set ?_ GE127.out) | exact HB.out)⟩
                       ·rw [if_neg c108] at H
                        have c108b0 : decide (((rd_T42 t119 x4_2).f1.f2) < 1) = false := decide_eq_false c108; clear c108
                        by_cases c111 : ((rd_T42 t119 x4_2).f1.f2) > 1000
                        ·rw [if_pos c111] at H
                         have c111b0 : decide (1000 < ((rd_T42 t119 x4_2).f1.f2)) = true := decide_eq_true c111; clear c111; obtain rfl := Option.some.inj H; (try have hnb112 := NB127_118.out); (try have hnc112 := NB118_127.out); obtain ⟨hcz113_0, hcz113_1, hcz113_2, hfz113_0, hfz113_1, hfz113_2⟩ := cells3 BK127.out
                         go_wp2
                         repeat (go_quiet (fail); try go_wp2)
                         go_ret; exact ⟨by first | rfl | (simp [errW_none, errW_some] <;> rfl) | (simp [*, errW_none, errW_some] <;> rfl), by repeat (first | (with_reducible first | exact HB.out | apply below_alloc | apply pw_below_drewN | apply below_drew1 | refine below_set ?_ GE118.out | refine below_set ?_ GE127.out) | exact HB.out)⟩
                        ·rw [if_neg c111] at H
                         have c111b0 : decide (1000 < ((rd_T42 t119 x4_2).f1.f2)) = false := decide_eq_false c111; clear c111; have H' := Aside0.mk H; clear H; (try have hnb114 := NB127_118.out); (try have hnc114 := NB118_127.out); obtain ⟨hcz115_0, hcz115_1, hcz115_2, hfz115_0, hfz115_1, hfz115_2⟩ := cells3 BK127.out
                         go_wp2
                         repeat (go_quiet (fail); try go_wp2)
                         go_roundg kj45
                         case measure => have := HJ1.out; have := HK2.out; have := HJ21.out; have := HK4.out; have := HJ34.out; have := HJ45.out; omega
                         case rel => exact ⟨(wrap64 (x4_2 + 1)), Z6, H', ⟨by have := HJ1.out; have := HK2.out; have := HJ21.out; have := HK4.out; have := HJ34.out; have := HJ45.out; omega⟩, ⟨pR_ HO_3.out⟩, ⟨pk_ BK118.out⟩, ⟨pB_ HB.out⟩⟩
               ·rw [if_neg c34] at H
                exact absurd H (by simp)
              ·rw [if_neg c33] at H
               exact absurd H (by simp)
       ·rw [if_neg c21] at H
        have c21b0 : decide (x4_2 < (t119.length : Int)) = false := decide_eq_false c21; clear c21; obtain rfl := Option.some.inj H
        go_wp2
        repeat (go_quiet (fail); try go_wp2)
        go_ret; exact ⟨by first | rfl | (simp [errW_none, errW_some] <;> rfl) | (simp [*, errW_none, errW_some] <;> rfl), by repeat (first | (with_reducible first | exact HB.out | apply below_alloc | apply pw_below_drewN | apply below_drew1 | refine below_set ?_ GE118.out) | exact HB.out)⟩

end Go.Proofs.Ytcdangcjbijfkaa.PFnExactLineHeld
