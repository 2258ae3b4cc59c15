-- by a program of this session's, over the kit's words
import Derived.Test.YteecolnemffffaaPZFnExactTreeOk
import Derived.Test.YteecolnemffffaaPFnExactTreeOkx0
import Derived.Test.YteecolnemffffaaPFnExactTreeOkx3
import Derived.Test.YteecolnemffffaaPFnExactTreeOkx4
namespace Go.Proofs.Yteecolnemffffaa.PFnExactTreeOk
open Go.RowKit Go.Proofs.YteecolnemffffaaW.PrintWords Go.Proofs.YteecolnemffffaaW.PrintLast Go.Proofs.YteecolnemffffaaW.PrintMore Go.Proofs.YteecolnemffffaaV Go.Proofs.Yteecolnemffffaa.ZFnExactTreeOk
attribute [local go_sem] max2_int min2_int max_two min_two max_three min_three max_four min_four   -- for this text's walks alone
set_option linter.unusedVariables false
set_option linter.unusedSimpArgs false

/-! ### spec_TreeOk: function 58 -/
mutual
def spec_TreeOk.j0 : Nat → Bool → Int → Int → Int → Int → List (S136) → List (S134) → Option (Bool)
  | 0, _, _, _, _, _, _, _ => none
  | k + 1, x18, x165000, x165001, x165002, x165003, x165004, x165005 => if x18 = true then (some false) else (spec_TreeOk.l0 k 0 x165000 x165001 x165002 x165003 x165004 x165005)
def spec_TreeOk.l0 : Nat → Int → Int → Int → Int → Int → List (S136) → List (S134) → Option (Bool)
  | 0, _, _, _, _, _, _, _ => none
  | k + 1, x3, x165000, x165001, x165002, x165003, x165004, x165005 => if x3 < (x165005.length : Int) then (if 0 ≤ x3 then (if x3 < (x165004.length : Int) then (if ((rd_T134 x165005 x3).f0) = ((rd_T136 x165004 x3).f0) then (if ((rd_T134 x165005 x3).f1.f0) = x165000 then ((spec_FairOk.f k ((rd_T134 x165005 x3).f1.f0) ((rd_T134 x165005 x3).f1.f1.f0) ((rd_T134 x165005 x3).f1.f1.f1) ((rd_T134 x165005 x3).f1.f1.f2) ((rd_T134 x165005 x3).f1.f2)).bind fun t169 => (spec_TreeOk.j2 k x3 (!t169) x165000 x165001 x165002 x165003 x165004 x165005 ((rd_T134 x165005 x3).f0) ((rd_T134 x165005 x3).f1.f0) ((rd_T134 x165005 x3).f1.f1.f0) ((rd_T134 x165005 x3).f1.f1.f1) ((rd_T134 x165005 x3).f1.f1.f2) ((rd_T134 x165005 x3).f1.f2))) else (spec_TreeOk.j2 k x3 true x165000 x165001 x165002 x165003 x165004 x165005 ((rd_T134 x165005 x3).f0) ((rd_T134 x165005 x3).f1.f0) ((rd_T134 x165005 x3).f1.f1.f0) ((rd_T134 x165005 x3).f1.f1.f1) ((rd_T134 x165005 x3).f1.f1.f2) ((rd_T134 x165005 x3).f1.f2))) else (spec_TreeOk.j2 k x3 true x165000 x165001 x165002 x165003 x165004 x165005 ((rd_T134 x165005 x3).f0) ((rd_T134 x165005 x3).f1.f0) ((rd_T134 x165005 x3).f1.f1.f0) ((rd_T134 x165005 x3).f1.f1.f1) ((rd_T134 x165005 x3).f1.f1.f2) ((rd_T134 x165005 x3).f1.f2))) else (none)) else (none)) else (some true)
def spec_TreeOk.j2 : Nat → Int → Bool → Int → Int → Int → Int → List (S136) → List (S134) → Int → Int → Int → Int → Int → List (S136) → Option (Bool)
  | 0, _, _, _, _, _, _, _, _, _, _, _, _, _, _ => none
  | k + 1, x3, x55, x165000, x165001, x165002, x165003, x165004, x165005, x168000, x168001, x168002, x168003, x168004, x168005 => if x55 = true then (some false) else (if 0 ≤ x3 then (if x3 < (x165004.length : Int) then ((spec_l19Busy.f k x168001 x168002 x168003 x168004 x168005).bind fun t171 => (if (((rd_T136 x165004 x3).f2) != (decide ((t171.length : Int) > 0))) = true then (some false) else (spec_TreeOk.l0 k (wrap64 (x3 + 1)) x165000 x165001 x165002 x165003 x165004 x165005))) else (none)) else (none))
end
def spec_TreeOk.f (k : Nat) (a0_0 : Int) (a0_1 : Int) (a0_2 : Int) (a0_3 : Int) (l0_4 : List (S136)) (l0_5 : List (S134)) : Option (Bool) := (spec_FairOk.f k a0_0 a0_1 a0_2 a0_3 l0_4).bind fun t165 => (if t165 = true then (spec_TreeOk.j0 k ((l0_5.length : Int) != (l0_4.length : Int)) a0_0 a0_1 a0_2 a0_3 l0_4 l0_5) else (spec_TreeOk.j0 k true a0_0 a0_1 a0_2 a0_3 l0_4 l0_5))
def spec_TreeOk.T7 : Bool × List (List Nat × List Nat) := (true, [([], []), ([0], [0]), ([], []), ([2], [2]), ([3], [3]), ([], []), ([4, 5], [4, 5]), ([6], [6]), ([7], [7]), ([1, 8], [1, 8]), ([9], [9]), ([10], [10]), ([11, 10], [10, 11]), ([12, 10], [10, 12]), ([10], [10]), ([14, 10], [10, 14]), ([15, 10], [10, 15]), ([13, 16, 10], [10, 13, 16]), ([10, 17], [10, 17]), ([18, 10], [18]), ([19], [19]), ([20, 19], [19, 20]), ([21, 19, 19], [19, 21]), ([22, 19], [19, 22]), ([19, 23], [19, 23])])
def spec_TreeOk.B7 : List Nat := [0, 1, 0, 4, 12, 0, 60, 124, 252, 511, 1023, 2047, 4095, 8191, 2047, 18431, 51199, 131071, 262143, 524287, 1048575, 2097151, 4194303, 8388607, 16777215]
theorem spec_TreeOk.tab7 : rtab .any (opsOf Try.f58 7) = spec_TreeOk.T7 := by kernel_rfl
theorem spec_TreeOk.bits7 : waitsOk spec_TreeOk.T7.2 spec_TreeOk.B7 = true := by kernel_rfl
def spec_TreeOk.T9 : Bool × List (List Nat × List Nat) := (true, [([], []), ([0], [0]), ([1], [1]), ([], []), ([2, 3], [2, 3]), ([4], [4]), ([5], [5]), ([], []), ([7], [7]), ([8], [8]), ([9], [9]), ([10], [10]), ([6, 11], [6, 11])])
def spec_TreeOk.B9 : List Nat := [0, 1, 3, 0, 15, 31, 63, 0, 128, 384, 896, 1920, 4095]
theorem spec_TreeOk.tab9 : rtab .any (opsOf Try.f58 9) = spec_TreeOk.T9 := by kernel_rfl
theorem spec_TreeOk.bits9 : waitsOk spec_TreeOk.T9.2 spec_TreeOk.B9 = true := by kernel_rfl
set_option maxHeartbeats 8000000 in
set_option maxRecDepth 100000 in
theorem spec_TreeOk.calls (k : Nat) (a0_0 : Int) (a0_1 : Int) (a0_2 : Int) (a0_3 : Int) (A0_4 : Option Addr) (c0_4 : Nat) (l0_4 : List (S136)) (A0_5 : Option Addr) (c0_5 : Nat) (l0_5 : List (S134)) (r : Bool) (w : World) (hr0_4 : Kd.C k136 w A0_4 l0_4.length l0_4) (hc0_4 : l0_4.length ≤ c0_4) (hr0_5 : Kd.C k134 w A0_5 l0_5.length l0_5) (hc0_5 : l0_5.length ≤ c0_5) (h : spec_TreeOk.f k a0_0 a0_1 a0_2 a0_3 l0_4 l0_5 = some r) :
    Calls Try.prog 58 #[.agg #[.int .i64 a0_0, .int .i64 a0_1, .int .i64 a0_2, .int .i64 a0_3, .slice A0_4 l0_4.length c0_4, .slice A0_5 l0_5.length c0_5]] w fun e w' => e = .returned (.bool r) ∧ Below w.heap.size w w' := by
  have hu55 := Try.underlying55
  have hu52 := Try.underlying52
  have hu134 := Try.underlying134
  have HR0_4 := Aside0.mk hr0_4
  have HC0_4 := Aside0.mk hc0_4
  clear hr0_4 hc0_4
  have HR0_5 := Aside0.mk hr0_5
  have HC0_5 := Aside0.mk hc0_5
  clear hr0_5 hc0_5
  have HB := Aside0.mk (Below.refl w.heap.size w)
  have H : ((spec_FairOk.f k a0_0 a0_1 a0_2 a0_3 l0_4).bind fun t165 => (if t165 = true then (spec_TreeOk.j0 k ((l0_5.length : Int) != (l0_4.length : Int)) a0_0 a0_1 a0_2 a0_3 l0_4 l0_5) else (spec_TreeOk.j0 k true a0_0 a0_1 a0_2 a0_3 l0_4 l0_5))) = some r := h
  clear h
  have HC2 := Aside0.mk H
  clear H
  go_enter Try.func58, Try.ntmps58
  go_upto_region 1 with (first | ((with_reducible refine gate_dst (N := 1) rfl ?_); (try (refine gate_guard (by rfl) ?_; dsimp only)); refine box_event ?hg (N := 1) ?hd (cs := #[.int .i64 a0_0, .int .i64 a0_1, .int .i64 a0_2, .int .i64 a0_3, .slice A0_4 l0_4.length c0_4, .slice A0_5 l0_5.length c0_5]) (t := 55) ?hr ?_; (case hd => rfl); (case hg => rfl); (case hr => first | (go_simp; done) | (go_simp; rfl)); intro gb164 hg w3 hbox hb; have n0_ := Aside0.mk (below_step Z42 hb); have n1_ := Aside0.mk (hbox); have n2_ := Aside0.mk ((by rw [hg]; exact (below_size Z42) : w.heap.size ≤ gb164)); have n3_ := Aside0.mk ((by rw [hg]; exact (below_size Z42) : w.heap.size ≤ gb164)); clear HB; have HB := n0_; have BK164 := n1_; have GW164 := n2_; have GE164 := n3_; clear n0_ n1_ n2_ n3_; clear hb hbox hg))
  (try simp only [Act.put, List.setIfInBounds_toArray, List.set_cons_zero, List.set_cons_succ])
  go_cut [18] (fun v18 wc => ∃ (kq : Nat) (x18_1 : Bool), v18 = .bool x18_1 ∧ Aside0 (spec_TreeOk.j0 kq x18_1 a0_0 a0_1 a0_2 a0_3 l0_4 l0_5 = some r) ∧ Aside0 (kq ≤ k) ∧ Aside0 (wc.heap[gb164]? = some (.cells #[.int .i64 a0_0, .int .i64 a0_1, .int .i64 a0_2, .int .i64 a0_3, (.slice A0_4 l0_4.length c0_4), (.slice A0_5 l0_5.length c0_5)] 55 (0, 0))) ∧ Aside0 (Below w.heap.size w wc))
  case first =>
    have H := HC2.out
    clear HC2
    replace H := Option.bind_eq_some_iff.mp H
    obtain ⟨t165, A40, H⟩ := H
    replace H : (if t165 = true then (spec_TreeOk.j0 k ((l0_5.length : Int) != (l0_4.length : Int)) a0_0 a0_1 a0_2 a0_3 l0_4 l0_5) else (spec_TreeOk.j0 k true a0_0 a0_1 a0_2 a0_3 l0_4 l0_5)) = some r := H
    have A4 := Aside0.mk A40
    clear A40
    by_cases c5 : t165 = true
    · subst c5
      have H1 : (spec_TreeOk.j0 k ((l0_5.length : Int) != (l0_4.length : Int)) a0_0 a0_1 a0_2 a0_3 l0_4 l0_5) = some r := by rw [if_pos rfl] at H; exact H
      clear H
      have H := H1
      clear H1
      have H' := Aside0.mk H
      clear H
      have hcz6_0 : w3.cell? ⟨gb164, 0, none⟩ = some (.int .i64 a0_0) := (blk_cell BK164.out 0).trans rfl
      have hcz6_1 : w3.cell? ⟨gb164, 1, none⟩ = some (.int .i64 a0_1) := (blk_cell BK164.out 1).trans rfl
      have hcz6_2 : w3.cell? ⟨gb164, 2, none⟩ = some (.int .i64 a0_2) := (blk_cell BK164.out 2).trans rfl
      have hcz6_3 : w3.cell? ⟨gb164, 3, none⟩ = some (.int .i64 a0_3) := (blk_cell BK164.out 3).trans rfl
      have hcz6_4 : w3.cell? ⟨gb164, 4, none⟩ = some (.slice A0_4 l0_4.length c0_4) := (blk_cell BK164.out 4).trans rfl
      have hcz6_5 : w3.cell? ⟨gb164, 5, none⟩ = some (.slice A0_5 l0_5.length c0_5) := (blk_cell BK164.out 5).trans rfl
      have hfz6_0 := blk_frozen BK164.out 0
      have hfz6_1 := blk_frozen BK164.out 1
      have hfz6_2 := blk_frozen BK164.out 2
      have hfz6_3 := blk_frozen BK164.out 3
      have hfz6_4 := blk_frozen BK164.out 4
      have hfz6_5 := blk_frozen BK164.out 5
      go_wp2_with (first | ((with_reducible refine gate_callee (f := 113) rfl ?_); refine goesL_ (some 7) rfl rfl Try.func113 (by kernel_rfl) rfl #[.agg #[.int .i64 a0_0, .int .i64 a0_1, .int .i64 a0_2, .int .i64 a0_3, .slice A0_4 l0_4.length c0_4]] rfl Z41 ?_; (with_reducible refine (spec_FairOk.calls k a0_0 a0_1 a0_2 a0_3 _ _ l0_4 true _ ?side1 ?side2 A4.out).mono ?_); (case side1 => repeat (first | exact (Kd.C_below HR0_4.out HB.out) | (with_reducible refine Kd.C_alloc ?_ _) | (with_reducible refine Kd.C_drewN ?_ _) | (with_reducible refine Kd.C_drew ?_))); (case side2 => exact HC0_4.out); rintro e w7 ⟨rfl, hb⟩; refine ⟨_, rfl, ?_⟩; have n0_ := Aside0.mk (blk_below (g := gb164) (o := .cells #[.int .i64 a0_0, .int .i64 a0_1, .int .i64 a0_2, .int .i64 a0_3, .slice A0_4 l0_4.length c0_4, .slice A0_5 l0_5.length c0_5] 55 (0, 0)) Z62 hb); have n1_ := Aside0.mk (below_step Z29 hb); clear BK164; clear HB; have BK164 := n0_; have HB := n1_; clear n0_ n1_; (try clear hb); (try clear hb2); (try clear hk); (try clear hi); have hcz8_0 : w7.cell? ⟨gb164, 0, none⟩ = some (.int .i64 a0_0) := (blk_cell BK164.out 0).trans rfl; have hcz8_1 : w7.cell? ⟨gb164, 1, none⟩ = some (.int .i64 a0_1) := (blk_cell BK164.out 1).trans rfl; have hcz8_2 : w7.cell? ⟨gb164, 2, none⟩ = some (.int .i64 a0_2) := (blk_cell BK164.out 2).trans rfl; have hcz8_3 : w7.cell? ⟨gb164, 3, none⟩ = some (.int .i64 a0_3) := (blk_cell BK164.out 3).trans rfl; have hcz8_4 : w7.cell? ⟨gb164, 4, none⟩ = some (.slice A0_4 l0_4.length c0_4) := (blk_cell BK164.out 4).trans rfl; have hcz8_5 : w7.cell? ⟨gb164, 5, none⟩ = some (.slice A0_5 l0_5.length c0_5) := (blk_cell BK164.out 5).trans rfl; have hfz8_0 := blk_frozen BK164.out 0; have hfz8_1 := blk_frozen BK164.out 1; have hfz8_2 := blk_frozen BK164.out 2; have hfz8_3 := blk_frozen BK164.out 3; have hfz8_4 := blk_frozen BK164.out 4; have hfz8_5 := blk_frozen BK164.out 5))
      go_meet
      case rel => exact ⟨_, (((l0_5.length : Int) != (l0_4.length : Int))), Z98, H', ⟨by first | omega | exact Nat.le_refl _⟩, ⟨by (with_reducible repeat (first | refine blk_drewN ?_ _ | refine blk_drew ?_ | refine blk_alloc ?_ _)); exact BK164.out⟩, ⟨by repeat (first | (with_reducible first | exact HB.out | apply below_alloc | apply pw_below_drewN | apply below_drew1 | refine below_set ?_ GE164.out) | exact HB.out)⟩⟩
    · replace c5 := Bool.eq_false_iff.mpr c5
      subst c5
      have H1 : (spec_TreeOk.j0 k true a0_0 a0_1 a0_2 a0_3 l0_4 l0_5) = some r := by rw [if_neg (show ¬ (false = true) by decide)] at H; exact H
      clear H
      have H := H1
      clear H1
      have H' := Aside0.mk H
      clear H
      have hcz9_0 : w3.cell? ⟨gb164, 0, none⟩ = some (.int .i64 a0_0) := (blk_cell BK164.out 0).trans rfl
      have hcz9_1 : w3.cell? ⟨gb164, 1, none⟩ = some (.int .i64 a0_1) := (blk_cell BK164.out 1).trans rfl
      have hcz9_2 : w3.cell? ⟨gb164, 2, none⟩ = some (.int .i64 a0_2) := (blk_cell BK164.out 2).trans rfl
      have hcz9_3 : w3.cell? ⟨gb164, 3, none⟩ = some (.int .i64 a0_3) := (blk_cell BK164.out 3).trans rfl
      have hcz9_4 : w3.cell? ⟨gb164, 4, none⟩ = some (.slice A0_4 l0_4.length c0_4) := (blk_cell BK164.out 4).trans rfl
      have hcz9_5 : w3.cell? ⟨gb164, 5, none⟩ = some (.slice A0_5 l0_5.length c0_5) := (blk_cell BK164.out 5).trans rfl
      have hfz9_0 := blk_frozen BK164.out 0
      have hfz9_1 := blk_frozen BK164.out 1
      have hfz9_2 := blk_frozen BK164.out 2
      have hfz9_3 := blk_frozen BK164.out 3
      have hfz9_4 := blk_frozen BK164.out 4
      have hfz9_5 := blk_frozen BK164.out 5
      go_wp2_with (first | ((with_reducible refine gate_callee (f := 113) rfl ?_); refine goesL_ (some 7) rfl rfl Try.func113 (by kernel_rfl) rfl #[.agg #[.int .i64 a0_0, .int .i64 a0_1, .int .i64 a0_2, .int .i64 a0_3, .slice A0_4 l0_4.length c0_4]] rfl Z41 ?_; (with_reducible refine (spec_FairOk.calls k a0_0 a0_1 a0_2 a0_3 _ _ l0_4 false _ ?side1 ?side2 A4.out).mono ?_); (case side1 => repeat (first | exact (Kd.C_below HR0_4.out HB.out) | (with_reducible refine Kd.C_alloc ?_ _) | (with_reducible refine Kd.C_drewN ?_ _) | (with_reducible refine Kd.C_drew ?_))); (case side2 => exact HC0_4.out); rintro e w10 ⟨rfl, hb⟩; refine ⟨_, rfl, ?_⟩; have n0_ := Aside0.mk (blk_below (g := gb164) (o := .cells #[.int .i64 a0_0, .int .i64 a0_1, .int .i64 a0_2, .int .i64 a0_3, .slice A0_4 l0_4.length c0_4, .slice A0_5 l0_5.length c0_5] 55 (0, 0)) Z62 hb); have n1_ := Aside0.mk (below_step Z29 hb); clear BK164; clear HB; have BK164 := n0_; have HB := n1_; clear n0_ n1_; (try clear hb); (try clear hb2); (try clear hk); (try clear hi)))
      go_meet
      case rel => exact ⟨_, (true), Z98, H', ⟨by first | omega | exact Nat.le_refl _⟩, ⟨by (with_reducible repeat (first | refine blk_drewN ?_ _ | refine blk_drew ?_ | refine blk_alloc ?_ _)); exact BK164.out⟩, ⟨by repeat (first | (with_reducible first | exact HB.out | apply below_alloc | apply pw_below_drewN | apply below_drew1 | refine below_set ?_ GE164.out) | exact HB.out)⟩⟩
  case rest =>
    clear HC2
    try clear c1
    try clear p2
    try clear c5
    try clear hcz6_0
    try clear hcz6_1
    try clear hcz6_2
    try clear hcz6_3
    try clear hcz6_4
    try clear hcz6_5
    try clear hcz8_0
    try clear hcz8_1
    try clear hcz8_2
    try clear hcz8_3
    try clear hcz8_4
    try clear hcz8_5
    try clear hcz9_0
    try clear hcz9_1
    try clear hcz9_2
    try clear hcz9_3
    try clear hcz9_4
    try clear hcz9_5
    try clear hfz6_0
    try clear hfz6_1
    try clear hfz6_2
    try clear hfz6_3
    try clear hfz6_4
    try clear hfz6_5
    try clear hfz8_0
    try clear hfz8_1
    try clear hfz8_2
    try clear hfz8_3
    try clear hfz8_4
    try clear hfz8_5
    try clear hfz9_0
    try clear hfz9_1
    try clear hfz9_2
    try clear hfz9_3
    try clear hfz9_4
    try clear hfz9_5
    obtain ⟨kq, x18_1, rfl, HA, HJ1, BK164, HB⟩ := hcut
    cases kq with
    | zero => exact absurd HA.out (by simp [spec_TreeOk.j0])
    | succ kj1 =>
      have H := HA.out
      clear HA
      simp only [spec_TreeOk.j0] at H
      by_cases c11 : x18_1 = true
      · subst c11
        have H1 : (some false) = some r := by rw [if_pos rfl] at H; exact H
        clear H
        have H := H1
        clear H1
        obtain rfl := Option.some.inj H
        go_wp2
        go_ret
        exact ⟨by first | rfl | (simp [errW_none, errW_some] <;> rfl) | (simp [*, errW_none, errW_some] <;> rfl), by repeat (first | (with_reducible first | exact HB.out | apply below_alloc | apply pw_below_drewN | apply below_drew1 | refine below_set ?_ GE164.out) | exact HB.out)⟩
      · replace c11 := Bool.eq_false_iff.mpr c11
        subst c11
        have H1 : (spec_TreeOk.l0 kj1 0 a0_0 a0_1 a0_2 a0_3 l0_4 l0_5) = some r := by rw [if_neg (show ¬ (false = true) by decide)] at H; exact H
        clear H
        have H := H1
        clear H1
        have H' := Aside0.mk H
        clear H
        go_wp2
        go_loopg [3] kj1 (fun kq v3 w' => ∃ (x3_2 : Int), v3 = .int .i64 x3_2 ∧ Aside0 (spec_TreeOk.l0 kq x3_2 a0_0 a0_1 a0_2 a0_3 l0_4 l0_5 = some r) ∧ Aside0 (kq ≤ kj1) ∧ Aside0 (w'.heap[gb164]? = some (.cells #[.int .i64 a0_0, .int .i64 a0_1, .int .i64 a0_2, .int .i64 a0_3, (.slice A0_4 l0_4.length c0_4), (.slice A0_5 l0_5.length c0_5)] 55 (0, 0))) ∧ Aside0 (Below w.heap.size w w'))
        case atStart => exact ⟨(0), Z98, H', ⟨Nat.le_refl _⟩, ⟨by (with_reducible repeat (first | refine blk_drewN ?_ _ | refine blk_drew ?_ | refine blk_alloc ?_ _)); exact BK164.out⟩, ⟨by repeat (first | (with_reducible first | exact HB.out | apply below_alloc | apply pw_below_drewN | apply below_drew1 | refine below_set ?_ GE164.out) | exact HB.out)⟩⟩
        case round =>
          clear H'
          try clear c1
          try clear p2
          try clear c5
          try clear c11
          try clear hcz6_0
          try clear hcz6_1
          try clear hcz6_2
          try clear hcz6_3
          try clear hcz6_4
          try clear hcz6_5
          try clear hcz8_0
          try clear hcz8_1
          try clear hcz8_2
          try clear hcz8_3
          try clear hcz8_4
          try clear hcz8_5
          try clear hcz9_0
          try clear hcz9_1
          try clear hcz9_2
          try clear hcz9_3
          try clear hcz9_4
          try clear hcz9_5
          try clear hfz6_0
          try clear hfz6_1
          try clear hfz6_2
          try clear hfz6_3
          try clear hfz6_4
          try clear hfz6_5
          try clear hfz8_0
          try clear hfz8_1
          try clear hfz8_2
          try clear hfz8_3
          try clear hfz8_4
          try clear hfz8_5
          try clear hfz9_0
          try clear hfz9_1
          try clear hfz9_2
          try clear hfz9_3
          try clear hfz9_4
          try clear hfz9_5
          try clear p2
          obtain ⟨x3_2, rfl, HA, HK2, BK164, HB⟩ := hrel
          cases gk with
          | zero => exact absurd HA.out (by simp [spec_TreeOk.l0])
          | succ k2 =>
            have H := HA.out
            clear HA
            simp only [spec_TreeOk.l0] at H
            by_cases c12 : x3_2 < (l0_5.length : Int)
            · rw [if_pos c12] at H
              have c12b0 : decide (x3_2 < (l0_5.length : Int)) = true := decide_eq_true c12
              clear c12
              by_cases c13 : 0 ≤ x3_2
              · rw [if_pos c13] at H
                have c13b0 : decide (0 ≤ x3_2) = true := decide_eq_true c13
                clear c13
                have HC14 := Aside0.mk H
                clear H
                have hcz15_0 : wr.cell? ⟨gb164, 0, none⟩ = some (.int .i64 a0_0) := (blk_cell BK164.out 0).trans rfl
                have hcz15_1 : wr.cell? ⟨gb164, 1, none⟩ = some (.int .i64 a0_1) := (blk_cell BK164.out 1).trans rfl
                have hcz15_2 : wr.cell? ⟨gb164, 2, none⟩ = some (.int .i64 a0_2) := (blk_cell BK164.out 2).trans rfl
                have hcz15_3 : wr.cell? ⟨gb164, 3, none⟩ = some (.int .i64 a0_3) := (blk_cell BK164.out 3).trans rfl
                have hcz15_4 : wr.cell? ⟨gb164, 4, none⟩ = some (.slice A0_4 l0_4.length c0_4) := (blk_cell BK164.out 4).trans rfl
                have hcz15_5 : wr.cell? ⟨gb164, 5, none⟩ = some (.slice A0_5 l0_5.length c0_5) := (blk_cell BK164.out 5).trans rfl
                have hfz15_0 := blk_frozen BK164.out 0
                have hfz15_1 := blk_frozen BK164.out 1
                have hfz15_2 := blk_frozen BK164.out 2
                have hfz15_3 := blk_frozen BK164.out 3
                have hfz15_4 := blk_frozen BK164.out 4
                have hfz15_5 := blk_frozen BK164.out 5
                have p166 : 0 ≤ (x3_2 : Int) := of_decide_eq_true Z97
                have q166 : x3_2 < (l0_5.length : Int) := of_decide_eq_true Z97
                obtain ⟨ad166, A166_5, c166_5, e166, hx166_0, hx166_1, hx166_2, hx166_3, hx166_4, hx166_5, hl166_5, hi166_5⟩ := at_T134 HR0_5.out x3_2 p166 q166
                cases e166
                replace hx166_0 := (HB.out.cell (World.block_lt_of_cell? w _ hx166_0)).trans hx166_0
                replace hx166_1 := (HB.out.cell (World.block_lt_of_cell? w _ hx166_1)).trans hx166_1
                replace hx166_2 := (HB.out.cell (World.block_lt_of_cell? w _ hx166_2)).trans hx166_2
                replace hx166_3 := (HB.out.cell (World.block_lt_of_cell? w _ hx166_3)).trans hx166_3
                replace hx166_4 := (HB.out.cell (World.block_lt_of_cell? w _ hx166_4)).trans hx166_4
                replace hx166_5 := (HB.out.cell (World.block_lt_of_cell? w _ hx166_5)).trans hx166_5
                have HR166_5 := Aside0.mk hi166_5
                have HC166_5 := Aside0.mk hl166_5
                clear hi166_5 hl166_5
                replace p166 := eq_true p166
                replace q166 := eq_true q166
                go_upto_region 7 with (first | ((with_reducible refine gate_dst (N := 4) rfl ?_); (try (refine gate_guard (by rfl) ?_; dsimp only)); refine box_event ?hg (N := 4) ?hd (cs := #[.int .i64 0, .int .i64 0, .int .i64 0, .int .i64 0, .int .i64 0, .slice none 0 0]) (t := 134) ?hr ?_; (case hd => rfl); (case hg => rfl); (case hr => first | (go_simp; done) | (go_simp; rfl)); intro gb167 hg w16 hbox hb; have n0_ := Aside0.mk (blk_below (g := gb164) (o := .cells #[.int .i64 a0_0, .int .i64 a0_1, .int .i64 a0_2, .int .i64 a0_3, .slice A0_4 l0_4.length c0_4, .slice (some ad166) l0_5.length c0_5] 55 (0, 0)) Z62 hb); have n1_ := Aside0.mk (below_step Z29 hb); have n2_ := Aside0.mk (hbox); have n3_ := Aside0.mk ((by rw [hg]; exact (below_size Z29) : w.heap.size ≤ gb167)); have n4_ := Aside0.mk ((by rw [hg]; exact (below_size Z29) : w.heap.size ≤ gb167)); have n5_ := Aside0.mk ((by rw [hg]; exact Nat.ne_of_lt (blk_lt (g := gb164) (o := .cells #[.int .i64 a0_0, .int .i64 a0_1, .int .i64 a0_2, .int .i64 a0_3, .slice A0_4 l0_4.length c0_4, .slice (some ad166) l0_5.length c0_5] 55 (0, 0)) Z62) : gb164 ≠ gb167)); have n6_ := Aside0.mk ((by rw [hg]; exact Nat.ne_of_gt (blk_lt (g := gb164) (o := .cells #[.int .i64 a0_0, .int .i64 a0_1, .int .i64 a0_2, .int .i64 a0_3, .slice A0_4 l0_4.length c0_4, .slice (some ad166) l0_5.length c0_5] 55 (0, 0)) Z62) : gb167 ≠ gb164)); clear BK164; clear HB; have BK164 := n0_; have HB := n1_; have BK167 := n2_; have GW167 := n3_; have GE167 := n4_; have NB164_167 := n5_; have NB167_164 := n6_; clear n0_ n1_ n2_ n3_ n4_ n5_ n6_; clear hb hbox hg; (try have hnb17 := NB167_164.out); (try have hnc17 := NB164_167.out); have hcz18_0 : w16.cell? ⟨gb167, 0, none⟩ = some (.int .i64 0) := (blk_cell BK167.out 0).trans rfl; have hcz18_1 : w16.cell? ⟨gb167, 1, none⟩ = some (.int .i64 0) := (blk_cell BK167.out 1).trans rfl; have hcz18_2 : w16.cell? ⟨gb167, 2, none⟩ = some (.int .i64 0) := (blk_cell BK167.out 2).trans rfl; have hcz18_3 : w16.cell? ⟨gb167, 3, none⟩ = some (.int .i64 0) := (blk_cell BK167.out 3).trans rfl; have hcz18_4 : w16.cell? ⟨gb167, 4, none⟩ = some (.int .i64 0) := (blk_cell BK167.out 4).trans rfl; have hcz18_5 : w16.cell? ⟨gb167, 5, none⟩ = some (.slice none 0 0) := (blk_cell BK167.out 5).trans rfl; have hfz18_0 := blk_frozen BK167.out 0; have hfz18_1 := blk_frozen BK167.out 1; have hfz18_2 := blk_frozen BK167.out 2; have hfz18_3 := blk_frozen BK167.out 3; have hfz18_4 := blk_frozen BK167.out 4; have hfz18_5 := blk_frozen BK167.out 5))
                (try simp only [Act.put, List.setIfInBounds_toArray, List.set_cons_zero, List.set_cons_succ])
                go_cut [55] (fun v55 wc => ∃ (kq : Nat) (x55_13 : Bool), v55 = .bool x55_13 ∧ Aside0 (spec_TreeOk.j2 kq x3_2 x55_13 a0_0 a0_1 a0_2 a0_3 l0_4 l0_5 ((rd_T134 l0_5 x3_2).f0) ((rd_T134 l0_5 x3_2).f1.f0) ((rd_T134 l0_5 x3_2).f1.f1.f0) ((rd_T134 l0_5 x3_2).f1.f1.f1) ((rd_T134 l0_5 x3_2).f1.f1.f2) ((rd_T134 l0_5 x3_2).f1.f2) = some r) ∧ Aside0 (kq ≤ k2) ∧ Aside0 (wc.heap[gb164]? = some (.cells #[.int .i64 a0_0, .int .i64 a0_1, .int .i64 a0_2, .int .i64 a0_3, (.slice A0_4 l0_4.length c0_4), (.slice (some ad166) l0_5.length c0_5)] 55 (0, 0))) ∧ Aside0 (wc.heap[gb167]? = some (.cells #[.int .i64 ((rd_T134 l0_5 x3_2).f0), .int .i64 ((rd_T134 l0_5 x3_2).f1.f0), .int .i64 ((rd_T134 l0_5 x3_2).f1.f1.f0), .int .i64 ((rd_T134 l0_5 x3_2).f1.f1.f1), .int .i64 ((rd_T134 l0_5 x3_2).f1.f1.f2), (.slice A166_5 ((rd_T134 l0_5 x3_2).f1.f2).length c166_5)] 134 (0, 0))) ∧ Aside0 (Below w.heap.size w wc))
                case first =>
                  have H := HC14.out
                  clear HC14
                  by_cases c19 : x3_2 < (l0_4.length : Int)
                  · rw [if_pos c19] at H
                    have c19b0 : decide (x3_2 < (l0_4.length : Int)) = true := decide_eq_true c19
                    clear c19
                    (first | rw [c19b0] | (simp only [i64_w, i32_w]; rw [c19b0]) | (have cz_ := c19b0; simp only [bne, gt_iff_lt, Int.natCast_pos] at cz_; first | rw [cz_] | (simp only [i64_w, i32_w]; rw [cz_])) | skip)
                    by_cases c20 : ((rd_T134 l0_5 x3_2).f0) = ((rd_T136 l0_4 x3_2).f0)
                    · rw [if_pos c20] at H
                      have c20b0 : (((rd_T134 l0_5 x3_2).f0) == ((rd_T136 l0_4 x3_2).f0)) = true := beq_iff_eq.mpr c20
                      have c20b1 : (((rd_T134 l0_5 x3_2).f0) != ((rd_T136 l0_4 x3_2).f0)) = false := bne_eq_false_iff_eq.mpr c20
                      clear c20
                      by_cases c21 : ((rd_T134 l0_5 x3_2).f1.f0) = a0_0
                      · rw [if_pos c21] at H
                        have c21b0 : (((rd_T134 l0_5 x3_2).f1.f0) == a0_0) = true := beq_iff_eq.mpr c21
                        have c21b1 : (((rd_T134 l0_5 x3_2).f1.f0) != a0_0) = false := bne_eq_false_iff_eq.mpr c21
                        clear c21
                        replace H := Option.bind_eq_some_iff.mp H
                        obtain ⟨t169, A220, H⟩ := H
                        replace H : (spec_TreeOk.j2 k2 x3_2 (!t169) a0_0 a0_1 a0_2 a0_3 l0_4 l0_5 ((rd_T134 l0_5 x3_2).f0) ((rd_T134 l0_5 x3_2).f1.f0) ((rd_T134 l0_5 x3_2).f1.f1.f0) ((rd_T134 l0_5 x3_2).f1.f1.f1) ((rd_T134 l0_5 x3_2).f1.f1.f2) ((rd_T134 l0_5 x3_2).f1.f2)) = some r := H
                        have A22 := Aside0.mk A220
                        clear A220
                        have H' := Aside0.mk H
                        clear H
                        try go_wp2
                        have n0_ : Aside0 (((((((w16.setCell ⟨gb167, 0, none⟩ (.int .i64 ((rd_T134 l0_5 x3_2).f0))).setCell ⟨gb167, 1, none⟩ (.int .i64 ((rd_T134 l0_5 x3_2).f1.f0))).setCell ⟨gb167, 2, none⟩ (.int .i64 ((rd_T134 l0_5 x3_2).f1.f1.f0))).setCell ⟨gb167, 3, none⟩ (.int .i64 ((rd_T134 l0_5 x3_2).f1.f1.f1))).setCell ⟨gb167, 4, none⟩ (.int .i64 ((rd_T134 l0_5 x3_2).f1.f1.f2))).setCell ⟨gb167, 5, none⟩ (.slice A166_5 ((rd_T134 l0_5 x3_2).f1.f2).length c166_5)).heap[gb164]? = some (.cells #[.int .i64 a0_0, .int .i64 a0_1, .int .i64 a0_2, .int .i64 a0_3, .slice A0_4 l0_4.length c0_4, .slice (some ad166) l0_5.length c0_5] 55 (0, 0))) := ⟨by (with_reducible repeat (first | refine blk_drewN ?_ _ | refine blk_drew ?_ | refine blk_alloc ?_ _)); refine blk_far ?_ NB164_167.out _; (with_reducible repeat (first | refine blk_drewN ?_ _ | refine blk_drew ?_ | refine blk_alloc ?_ _)); refine blk_far ?_ NB164_167.out _; (with_reducible repeat (first | refine blk_drewN ?_ _ | refine blk_drew ?_ | refine blk_alloc ?_ _)); refine blk_far ?_ NB164_167.out _; (with_reducible repeat (first | refine blk_drewN ?_ _ | refine blk_drew ?_ | refine blk_alloc ?_ _)); refine blk_far ?_ NB164_167.out _; (with_reducible repeat (first | refine blk_drewN ?_ _ | refine blk_drew ?_ | refine blk_alloc ?_ _)); refine blk_far ?_ NB164_167.out _; (with_reducible repeat (first | refine blk_drewN ?_ _ | refine blk_drew ?_ | refine blk_alloc ?_ _)); refine blk_far ?_ NB164_167.out _; (with_reducible repeat (first | refine blk_drewN ?_ _ | refine blk_drew ?_ | refine blk_alloc ?_ _)); exact BK164.out⟩
                        have n1_ : Aside0 (((((((w16.setCell ⟨gb167, 0, none⟩ (.int .i64 ((rd_T134 l0_5 x3_2).f0))).setCell ⟨gb167, 1, none⟩ (.int .i64 ((rd_T134 l0_5 x3_2).f1.f0))).setCell ⟨gb167, 2, none⟩ (.int .i64 ((rd_T134 l0_5 x3_2).f1.f1.f0))).setCell ⟨gb167, 3, none⟩ (.int .i64 ((rd_T134 l0_5 x3_2).f1.f1.f1))).setCell ⟨gb167, 4, none⟩ (.int .i64 ((rd_T134 l0_5 x3_2).f1.f1.f2))).setCell ⟨gb167, 5, none⟩ (.slice A166_5 ((rd_T134 l0_5 x3_2).f1.f2).length c166_5)).heap[gb167]? = some (.cells #[.int .i64 ((rd_T134 l0_5 x3_2).f0), .int .i64 ((rd_T134 l0_5 x3_2).f1.f0), .int .i64 ((rd_T134 l0_5 x3_2).f1.f1.f0), .int .i64 ((rd_T134 l0_5 x3_2).f1.f1.f1), .int .i64 ((rd_T134 l0_5 x3_2).f1.f1.f2), .slice A166_5 ((rd_T134 l0_5 x3_2).f1.f2).length c166_5] 134 (0, 0))) := ⟨by (with_reducible repeat (first | refine blk_drewN ?_ _ | refine blk_drew ?_ | refine blk_alloc ?_ _)); refine blk_put (cs := #[.int .i64 ((rd_T134 l0_5 x3_2).f0), .int .i64 ((rd_T134 l0_5 x3_2).f1.f0), .int .i64 ((rd_T134 l0_5 x3_2).f1.f1.f0), .int .i64 ((rd_T134 l0_5 x3_2).f1.f1.f1), .int .i64 ((rd_T134 l0_5 x3_2).f1.f1.f2), .slice none 0 0]) ?_ 5 _ rfl; (with_reducible repeat (first | refine blk_drewN ?_ _ | refine blk_drew ?_ | refine blk_alloc ?_ _)); refine blk_put (cs := #[.int .i64 ((rd_T134 l0_5 x3_2).f0), .int .i64 ((rd_T134 l0_5 x3_2).f1.f0), .int .i64 ((rd_T134 l0_5 x3_2).f1.f1.f0), .int .i64 ((rd_T134 l0_5 x3_2).f1.f1.f1), .int .i64 0, .slice none 0 0]) ?_ 4 _ rfl; (with_reducible repeat (first | refine blk_drewN ?_ _ | refine blk_drew ?_ | refine blk_alloc ?_ _)); refine blk_put (cs := #[.int .i64 ((rd_T134 l0_5 x3_2).f0), .int .i64 ((rd_T134 l0_5 x3_2).f1.f0), .int .i64 ((rd_T134 l0_5 x3_2).f1.f1.f0), .int .i64 0, .int .i64 0, .slice none 0 0]) ?_ 3 _ rfl; (with_reducible repeat (first | refine blk_drewN ?_ _ | refine blk_drew ?_ | refine blk_alloc ?_ _)); refine blk_put (cs := #[.int .i64 ((rd_T134 l0_5 x3_2).f0), .int .i64 ((rd_T134 l0_5 x3_2).f1.f0), .int .i64 0, .int .i64 0, .int .i64 0, .slice none 0 0]) ?_ 2 _ rfl; (with_reducible repeat (first | refine blk_drewN ?_ _ | refine blk_drew ?_ | refine blk_alloc ?_ _)); refine blk_put (cs := #[.int .i64 ((rd_T134 l0_5 x3_2).f0), .int .i64 0, .int .i64 0, .int .i64 0, .int .i64 0, .slice none 0 0]) ?_ 1 _ rfl; (with_reducible repeat (first | refine blk_drewN ?_ _ | refine blk_drew ?_ | refine blk_alloc ?_ _)); refine blk_put (cs := #[.int .i64 0, .int .i64 0, .int .i64 0, .int .i64 0, .int .i64 0, .slice none 0 0]) ?_ 0 _ rfl; (with_reducible repeat (first | refine blk_drewN ?_ _ | refine blk_drew ?_ | refine blk_alloc ?_ _)); exact BK167.out⟩
                        have n2_ : Aside0 (Below w.heap.size w ((((((w16.setCell ⟨gb167, 0, none⟩ (.int .i64 ((rd_T134 l0_5 x3_2).f0))).setCell ⟨gb167, 1, none⟩ (.int .i64 ((rd_T134 l0_5 x3_2).f1.f0))).setCell ⟨gb167, 2, none⟩ (.int .i64 ((rd_T134 l0_5 x3_2).f1.f1.f0))).setCell ⟨gb167, 3, none⟩ (.int .i64 ((rd_T134 l0_5 x3_2).f1.f1.f1))).setCell ⟨gb167, 4, none⟩ (.int .i64 ((rd_T134 l0_5 x3_2).f1.f1.f2))).setCell ⟨gb167, 5, none⟩ (.slice A166_5 ((rd_T134 l0_5 x3_2).f1.f2).length c166_5))) := ⟨by repeat (first | (with_reducible first | exact HB.out | apply below_alloc | apply pw_below_drewN | apply below_drew1 | refine below_set ?_ GE164.out | refine below_set ?_ GE167.out) | exact HB.out)⟩
                        (try clear BK164)
                        (try clear BK167)
                        (try clear HB)
                        generalize ((((((w16.setCell ⟨gb167, 0, none⟩ (.int .i64 ((rd_T134 l0_5 x3_2).f0))).setCell ⟨gb167, 1, none⟩ (.int .i64 ((rd_T134 l0_5 x3_2).f1.f0))).setCell ⟨gb167, 2, none⟩ (.int .i64 ((rd_T134 l0_5 x3_2).f1.f1.f0))).setCell ⟨gb167, 3, none⟩ (.int .i64 ((rd_T134 l0_5 x3_2).f1.f1.f1))).setCell ⟨gb167, 4, none⟩ (.int .i64 ((rd_T134 l0_5 x3_2).f1.f1.f2))).setCell ⟨gb167, 5, none⟩ (.slice A166_5 ((rd_T134 l0_5 x3_2).f1.f2).length c166_5)) = w23 at n0_ n1_ n2_ ⊢
                        have BK164 := n0_
                        have BK167 := n1_
                        have HB := n2_
                        clear n0_ n1_ n2_
                        have n0_ := Aside0.mk (blk_drew BK164.out)
                        have n1_ := Aside0.mk (blk_drew BK167.out)
                        have n2_ := Aside0.mk (below_drew1 HB.out)
                        clear BK164
                        clear BK167
                        clear HB
                        have BK164 := n0_
                        have BK167 := n1_
                        have HB := n2_
                        clear n0_ n1_ n2_
                        have p168 : 0 ≤ (x3_2 : Int) := of_decide_eq_true Z97
                        have q168 : x3_2 < (l0_4.length : Int) := of_decide_eq_true Z97
                        obtain ⟨ad168, e168, hx168_0, hx168_1, hx168_2, hx168_3, hx168_4, hx168_5⟩ := at_T136 HR0_4.out x3_2 p168 q168
                        have hw168_5 := hx168_5
                        have hw168_4 := hx168_4
                        have hw168_3 := hx168_3
                        have hw168_2 := hx168_2
                        have hw168_1 := hx168_1
                        have hw168_0 := hx168_0
                        cases e168
                        replace hx168_0 := (HB.out.cell (World.block_lt_of_cell? w _ hx168_0)).trans hx168_0
                        replace hx168_1 := (HB.out.cell (World.block_lt_of_cell? w _ hx168_1)).trans hx168_1
                        replace hx168_2 := (HB.out.cell (World.block_lt_of_cell? w _ hx168_2)).trans hx168_2
                        replace hx168_3 := (HB.out.cell (World.block_lt_of_cell? w _ hx168_3)).trans hx168_3
                        replace hx168_4 := (HB.out.cell (World.block_lt_of_cell? w _ hx168_4)).trans hx168_4
                        replace hx168_5 := (HB.out.cell (World.block_lt_of_cell? w _ hx168_5)).trans hx168_5
                        replace p168 := eq_true p168
                        replace q168 := eq_true q168
                        refine start_ (n := 25) (S := fun w' => w'.cell? ⟨gb167, 0, none⟩ = some (.int .i64 ((rd_T134 l0_5 x3_2).f0)) ∧ w'.cell? ⟨gb167, 1, none⟩ = some (.int .i64 ((rd_T134 l0_5 x3_2).f1.f0)) ∧ w'.cell? ⟨gb167, 2, none⟩ = some (.int .i64 ((rd_T134 l0_5 x3_2).f1.f1.f0)) ∧ w'.cell? ⟨gb167, 3, none⟩ = some (.int .i64 ((rd_T134 l0_5 x3_2).f1.f1.f1)) ∧ w'.cell? ⟨gb167, 4, none⟩ = some (.int .i64 ((rd_T134 l0_5 x3_2).f1.f1.f2)) ∧ w'.cell? ⟨gb167, 5, none⟩ = some (.slice A166_5 ((rd_T134 l0_5 x3_2).f1.f2).length c166_5) ∧ w'.cell? ⟨gb164, 0, none⟩ = some (.int .i64 a0_0) ∧ w'.cell? ⟨gb164, 1, none⟩ = some (.int .i64 a0_1) ∧ w'.cell? ⟨gb164, 2, none⟩ = some (.int .i64 a0_2) ∧ w'.cell? ⟨gb164, 3, none⟩ = some (.int .i64 a0_3) ∧ w'.cell? ⟨gb164, 4, none⟩ = some (.slice (some ad168) l0_4.length c0_4) ∧ w'.cell? ⟨gb164, 5, none⟩ = some (.slice (some ad166) l0_5.length c0_5) ∧ w'.cell? (ad168.add ((x3_2).toNat * 6)) = some (.int .i64 ((rd_T136 l0_4 x3_2).f0)) ∧ w'.cell? ⟨(ad168.add ((x3_2).toNat * 6)).block, (ad168.add ((x3_2).toNat * 6)).off + 1, none⟩ = some (.int .i64 ((rd_T136 l0_4 x3_2).f1)) ∧ w'.cell? ⟨(ad168.add ((x3_2).toNat * 6)).block, (ad168.add ((x3_2).toNat * 6)).off + 2, none⟩ = some (.bool ((rd_T136 l0_4 x3_2).f2)) ∧ w'.cell? ⟨(ad168.add ((x3_2).toNat * 6)).block, (ad168.add ((x3_2).toNat * 6)).off + 3, none⟩ = some (.int .i64 ((rd_T136 l0_4 x3_2).f3.f0)) ∧ w'.cell? ⟨(ad168.add ((x3_2).toNat * 6)).block, (ad168.add ((x3_2).toNat * 6)).off + 4, none⟩ = some (.int .i64 ((rd_T136 l0_4 x3_2).f3.f1)) ∧ w'.cell? ⟨(ad168.add ((x3_2).toNat * 6)).block, (ad168.add ((x3_2).toNat * 6)).off + 5, none⟩ = some (.int .i64 ((rd_T136 l0_4 x3_2).f3.f2))) (ds := []) (bz 25 0) (by kernel_rfl) rfl (by kernel_rfl) ⟨(blk_cell BK167.out 0).trans rfl, (blk_cell BK167.out 1).trans rfl, (blk_cell BK167.out 2).trans rfl, (blk_cell BK167.out 3).trans rfl, (blk_cell BK167.out 4).trans rfl, (blk_cell BK167.out 5).trans rfl, (blk_cell BK164.out 0).trans rfl, (blk_cell BK164.out 1).trans rfl, (blk_cell BK164.out 2).trans rfl, (blk_cell BK164.out 3).trans rfl, (blk_cell BK164.out 4).trans rfl, (blk_cell BK164.out 5).trans rfl, ((HB.out.cell (World.block_lt_of_cell? w _ hw168_0)).trans hw168_0), ((HB.out.cell (World.block_lt_of_cell? w _ hw168_1)).trans hw168_1), ((HB.out.cell (World.block_lt_of_cell? w _ hw168_2)).trans hw168_2), ((HB.out.cell (World.block_lt_of_cell? w _ hw168_3)).trans hw168_3), ((HB.out.cell (World.block_lt_of_cell? w _ hw168_4)).trans hw168_4), ((HB.out.cell (World.block_lt_of_cell? w _ hw168_5)).trans hw168_5)⟩ (fun hHeld => ?_); refine with_tabW spec_TreeOk.tab7 spec_TreeOk.bits7 (fun HT_ HW_ => ?_)
                        generalize w23.drew = w24 at BK164 BK167 HB hx168_0 hx168_1 hx168_2 hx168_3 hx168_4 hx168_5 hHeld ⊢
                        refine px_ (i := 0) (N := some 31) (bz 25 1) (any_of HT_.out (by kernel_rfl)) ?_
                        refine px_ (i := 2) (N := some 33) (bz 25 5) (any_of HT_.out (by kernel_rfl)) ?_
                        refine px_ (i := 3) (N := some 34) (bz 25 13) (any_of HT_.out (by kernel_rfl)) ?_
                        refine px_ (i := 5) (N := some 36) (bz 25 45) (any_of HT_.out (by kernel_rfl)) ?_
                        refine tx_ (i := 1) (N := some 32) (bz 25 47) rfl rfl (take_ofW HT_.out HW_.out (by kernel_rfl)) hHeld Z49 ?_
                        refine tx_ (i := 4) (N := some 35) (bz 25 63) rfl rfl (take_ofW HT_.out HW_.out (by kernel_rfl)) hHeld Z49 ?_
                        refine px_ (i := 6) (N := some 37) (bz 25 127) (any_of HT_.out (by kernel_rfl)) ?_
                        refine px_ (i := 7) (N := some 38) (bz 25 255) (any_of HT_.out (by kernel_rfl)) ?_
                        refine tx_ (i := 8) (N := some 39) (bz 25 511) rfl rfl (take_ofW HT_.out HW_.out (by kernel_rfl)) hHeld Z49 ?_
                        refine px_ (i := 9) (N := some 40) (bz 25 1023) (any_of HT_.out (by kernel_rfl)) ?_
                        refine px_ (i := 10) (N := some 41) (bz 25 2047) (any_of HT_.out (by kernel_rfl)) ?_
                        refine px_ (i := 11) (N := some 42) (bz 25 4095) (any_of HT_.out (by kernel_rfl)) ?_
                        refine px_ (i := 12) (N := some 43) (bz 25 8191) (any_of HT_.out (by kernel_rfl)) ?_
                        refine px_ (i := 14) (N := some 45) (bz 25 24575) (any_of HT_.out (by kernel_rfl)) ?_
                        refine px_ (i := 15) (N := some 46) (bz 25 57343) (any_of HT_.out (by kernel_rfl)) ?_
                        refine tx_ (i := 13) (N := some 44) (bz 25 65535) rfl rfl (take_ofW HT_.out HW_.out (by kernel_rfl)) hHeld Z49 ?_
                        refine tx_ (i := 16) (N := some 47) (bz 25 131071) rfl rfl (take_ofW HT_.out HW_.out (by kernel_rfl)) hHeld Z49 ?_
                        refine px_ (i := 17) (N := some 48) (bz 25 262143) (any_of HT_.out (by kernel_rfl)) ?_
                        refine px_ (i := 18) (N := some 49) (bz 25 524287) (any_of HT_.out (by kernel_rfl)) ?_
                        refine px_ (i := 19) (N := some 50) (bz 25 1048575) (any_of HT_.out (by kernel_rfl)) ?_
                        refine px_ (i := 20) (N := some 51) (bz 25 2097151) (any_of HT_.out (by kernel_rfl)) ?_
                        refine tx_ (i := 21) (N := some 52) (bz 25 4194303) rfl rfl (take_ofW HT_.out HW_.out (by kernel_rfl)) hHeld Z49 ?_
                        refine one_ (i := 22) (N := some 53) (bz 25 8388607) rfl rfl (one_of HT_.out (by kernel_rfl)) (by decide) (fun K hK => ?_)
                        refine goes_ Try.func113 (by kernel_rfl) rfl #[.agg #[.int .i64 ((rd_T134 l0_5 x3_2).f1.f0), .int .i64 ((rd_T134 l0_5 x3_2).f1.f1.f0), .int .i64 ((rd_T134 l0_5 x3_2).f1.f1.f1), .int .i64 ((rd_T134 l0_5 x3_2).f1.f1.f2), .slice A166_5 ((rd_T134 l0_5 x3_2).f1.f2).length c166_5]] (by rfl) rfl rfl Z41 ?_
                        with_reducible refine (spec_FairOk.calls k2 ((rd_T134 l0_5 x3_2).f1.f0) ((rd_T134 l0_5 x3_2).f1.f1.f0) ((rd_T134 l0_5 x3_2).f1.f1.f1) ((rd_T134 l0_5 x3_2).f1.f1.f2) _ _ ((rd_T134 l0_5 x3_2).f1.f2) t169 _ ?side1 ?side2 A22.out).mono ?_
                        (case side1 => repeat (first | exact (Kd.C_below HR166_5.out HB.out) | (with_reducible refine Kd.C_alloc ?_ _) | (with_reducible refine Kd.C_drewN ?_ _) | (with_reducible refine Kd.C_drew ?_)))
                        (case side2 => exact HC166_5.out)
                        rintro e w25 ⟨rfl, hb⟩
                        refine ⟨_, rfl, ?_⟩
                        have n0_ := Aside0.mk (blk_below (g := gb164) (o := .cells #[.int .i64 a0_0, .int .i64 a0_1, .int .i64 a0_2, .int .i64 a0_3, .slice (some ad168) l0_4.length c0_4, .slice (some ad166) l0_5.length c0_5] 55 (0, 0)) Z62 hb)
                        have n1_ := Aside0.mk (blk_below (g := gb167) (o := .cells #[.int .i64 ((rd_T134 l0_5 x3_2).f0), .int .i64 ((rd_T134 l0_5 x3_2).f1.f0), .int .i64 ((rd_T134 l0_5 x3_2).f1.f1.f0), .int .i64 ((rd_T134 l0_5 x3_2).f1.f1.f1), .int .i64 ((rd_T134 l0_5 x3_2).f1.f1.f2), .slice A166_5 ((rd_T134 l0_5 x3_2).f1.f2).length c166_5] 134 (0, 0)) Z63 hb)
                        have n2_ := Aside0.mk (below_step Z9 hb)
                        clear BK164
                        clear BK167
                        clear HB
                        have BK164 := n0_
                        have BK167 := n1_
                        have HB := n2_
                        clear n0_ n1_ n2_
                        (try clear hb)
                        (try clear hb2)
                        (try clear hk)
                        (try clear hi)
                        refine hK.out _ _ ⟨(blk_cell BK167.out 0).trans rfl, (blk_cell BK167.out 1).trans rfl, (blk_cell BK167.out 2).trans rfl, (blk_cell BK167.out 3).trans rfl, (blk_cell BK167.out 4).trans rfl, (blk_cell BK167.out 5).trans rfl, (blk_cell BK164.out 0).trans rfl, (blk_cell BK164.out 1).trans rfl, (blk_cell BK164.out 2).trans rfl, (blk_cell BK164.out 3).trans rfl, (blk_cell BK164.out 4).trans rfl, (blk_cell BK164.out 5).trans rfl, ((HB.out.cell (World.block_lt_of_cell? w _ hw168_0)).trans hw168_0), ((HB.out.cell (World.block_lt_of_cell? w _ hw168_1)).trans hw168_1), ((HB.out.cell (World.block_lt_of_cell? w _ hw168_2)).trans hw168_2), ((HB.out.cell (World.block_lt_of_cell? w _ hw168_3)).trans hw168_3), ((HB.out.cell (World.block_lt_of_cell? w _ hw168_4)).trans hw168_4), ((HB.out.cell (World.block_lt_of_cell? w _ hw168_5)).trans hw168_5)⟩ (fun hHeld => ?_)
                        clear hK K
                        refine nx_ (N := some 53) ?_
                        refine px_ (i := 23) (N := some 54) (bz 25 16777215) (any_of HT_.out (by kernel_rfl)) ?_
                        refine px_ (i := 24) (N := some 55) (bz 25 33554431) (any_of HT_.out (by kernel_rfl)) ?_
                        refine done_ (done_of HT_.out (by kernel_rfl)) ?_
                        try go_wp2
                        go_meet
                        case rel => exact ⟨_, (!t169), Z98, H', ⟨by have := HJ1.out; have := HK2.out; first | omega | exact Nat.le_refl _⟩, ⟨by (with_reducible repeat (first | refine blk_drewN ?_ _ | refine blk_drew ?_ | refine blk_alloc ?_ _)); exact BK164.out⟩, ⟨by (with_reducible repeat (first | refine blk_drewN ?_ _ | refine blk_drew ?_ | refine blk_alloc ?_ _)); exact BK167.out⟩, ⟨by repeat (first | (with_reducible first | exact HB.out | apply below_alloc | apply pw_below_drewN | apply below_drew1 | refine below_set ?_ GE164.out | refine below_set ?_ GE167.out) | exact HB.out)⟩⟩
                      · rw [if_neg c21] at H
                        have c21b0 : (((rd_T134 l0_5 x3_2).f1.f0) == a0_0) = false := beq_eq_false_iff_ne.mpr c21
                        have c21b1 : (((rd_T134 l0_5 x3_2).f1.f0) != a0_0) = true := bne_iff_ne.mpr c21
                        have H' := Aside0.mk H
                        clear H
                        try go_wp2
                        have n0_ : Aside0 (((((((w16.setCell ⟨gb167, 0, none⟩ (.int .i64 ((rd_T134 l0_5 x3_2).f0))).setCell ⟨gb167, 1, none⟩ (.int .i64 ((rd_T134 l0_5 x3_2).f1.f0))).setCell ⟨gb167, 2, none⟩ (.int .i64 ((rd_T134 l0_5 x3_2).f1.f1.f0))).setCell ⟨gb167, 3, none⟩ (.int .i64 ((rd_T134 l0_5 x3_2).f1.f1.f1))).setCell ⟨gb167, 4, none⟩ (.int .i64 ((rd_T134 l0_5 x3_2).f1.f1.f2))).setCell ⟨gb167, 5, none⟩ (.slice A166_5 ((rd_T134 l0_5 x3_2).f1.f2).length c166_5)).heap[gb164]? = some (.cells #[.int .i64 a0_0, .int .i64 a0_1, .int .i64 a0_2, .int .i64 a0_3, .slice A0_4 l0_4.length c0_4, .slice (some ad166) l0_5.length c0_5] 55 (0, 0))) := ⟨by (with_reducible repeat (first | refine blk_drewN ?_ _ | refine blk_drew ?_ | refine blk_alloc ?_ _)); refine blk_far ?_ NB164_167.out _; (with_reducible repeat (first | refine blk_drewN ?_ _ | refine blk_drew ?_ | refine blk_alloc ?_ _)); refine blk_far ?_ NB164_167.out _; (with_reducible repeat (first | refine blk_drewN ?_ _ | refine blk_drew ?_ | refine blk_alloc ?_ _)); refine blk_far ?_ NB164_167.out _; (with_reducible repeat (first | refine blk_drewN ?_ _ | refine blk_drew ?_ | refine blk_alloc ?_ _)); refine blk_far ?_ NB164_167.out _; (with_reducible repeat (first | refine blk_drewN ?_ _ | refine blk_drew ?_ | refine blk_alloc ?_ _)); refine blk_far ?_ NB164_167.out _; (with_reducible repeat (first | refine blk_drewN ?_ _ | refine blk_drew ?_ | refine blk_alloc ?_ _)); refine blk_far ?_ NB164_167.out _; (with_reducible repeat (first | refine blk_drewN ?_ _ | refine blk_drew ?_ | refine blk_alloc ?_ _)); exact BK164.out⟩
                        have n1_ : Aside0 (((((((w16.setCell ⟨gb167, 0, none⟩ (.int .i64 ((rd_T134 l0_5 x3_2).f0))).setCell ⟨gb167, 1, none⟩ (.int .i64 ((rd_T134 l0_5 x3_2).f1.f0))).setCell ⟨gb167, 2, none⟩ (.int .i64 ((rd_T134 l0_5 x3_2).f1.f1.f0))).setCell ⟨gb167, 3, none⟩ (.int .i64 ((rd_T134 l0_5 x3_2).f1.f1.f1))).setCell ⟨gb167, 4, none⟩ (.int .i64 ((rd_T134 l0_5 x3_2).f1.f1.f2))).setCell ⟨gb167, 5, none⟩ (.slice A166_5 ((rd_T134 l0_5 x3_2).f1.f2).length c166_5)).heap[gb167]? = some (.cells #[.int .i64 ((rd_T134 l0_5 x3_2).f0), .int .i64 ((rd_T134 l0_5 x3_2).f1.f0), .int .i64 ((rd_T134 l0_5 x3_2).f1.f1.f0), .int .i64 ((rd_T134 l0_5 x3_2).f1.f1.f1), .int .i64 ((rd_T134 l0_5 x3_2).f1.f1.f2), .slice A166_5 ((rd_T134 l0_5 x3_2).f1.f2).length c166_5] 134 (0, 0))) := ⟨by (with_reducible repeat (first | refine blk_drewN ?_ _ | refine blk_drew ?_ | refine blk_alloc ?_ _)); refine blk_put (cs := #[.int .i64 ((rd_T134 l0_5 x3_2).f0), .int .i64 ((rd_T134 l0_5 x3_2).f1.f0), .int .i64 ((rd_T134 l0_5 x3_2).f1.f1.f0), .int .i64 ((rd_T134 l0_5 x3_2).f1.f1.f1), .int .i64 ((rd_T134 l0_5 x3_2).f1.f1.f2), .slice none 0 0]) ?_ 5 _ rfl; (with_reducible repeat (first | refine blk_drewN ?_ _ | refine blk_drew ?_ | refine blk_alloc ?_ _)); refine blk_put (cs := #[.int .i64 ((rd_T134 l0_5 x3_2).f0), .int .i64 ((rd_T134 l0_5 x3_2).f1.f0), .int .i64 ((rd_T134 l0_5 x3_2).f1.f1.f0), .int .i64 ((rd_T134 l0_5 x3_2).f1.f1.f1), .int .i64 0, .slice none 0 0]) ?_ 4 _ rfl; (with_reducible repeat (first | refine blk_drewN ?_ _ | refine blk_drew ?_ | refine blk_alloc ?_ _)); refine blk_put (cs := #[.int .i64 ((rd_T134 l0_5 x3_2).f0), .int .i64 ((rd_T134 l0_5 x3_2).f1.f0), .int .i64 ((rd_T134 l0_5 x3_2).f1.f1.f0), .int .i64 0, .int .i64 0, .slice none 0 0]) ?_ 3 _ rfl; (with_reducible repeat (first | refine blk_drewN ?_ _ | refine blk_drew ?_ | refine blk_alloc ?_ _)); refine blk_put (cs := #[.int .i64 ((rd_T134 l0_5 x3_2).f0), .int .i64 ((rd_T134 l0_5 x3_2).f1.f0), .int .i64 0, .int .i64 0, .int .i64 0, .slice none 0 0]) ?_ 2 _ rfl; (with_reducible repeat (first | refine blk_drewN ?_ _ | refine blk_drew ?_ | refine blk_alloc ?_ _)); refine blk_put (cs := #[.int .i64 ((rd_T134 l0_5 x3_2).f0), .int .i64 0, .int .i64 0, .int .i64 0, .int .i64 0, .slice none 0 0]) ?_ 1 _ rfl; (with_reducible repeat (first | refine blk_drewN ?_ _ | refine blk_drew ?_ | refine blk_alloc ?_ _)); refine blk_put (cs := #[.int .i64 0, .int .i64 0, .int .i64 0, .int .i64 0, .int .i64 0, .slice none 0 0]) ?_ 0 _ rfl; (with_reducible repeat (first | refine blk_drewN ?_ _ | refine blk_drew ?_ | refine blk_alloc ?_ _)); exact BK167.out⟩
                        have n2_ : Aside0 (Below w.heap.size w ((((((w16.setCell ⟨gb167, 0, none⟩ (.int .i64 ((rd_T134 l0_5 x3_2).f0))).setCell ⟨gb167, 1, none⟩ (.int .i64 ((rd_T134 l0_5 x3_2).f1.f0))).setCell ⟨gb167, 2, none⟩ (.int .i64 ((rd_T134 l0_5 x3_2).f1.f1.f0))).setCell ⟨gb167, 3, none⟩ (.int .i64 ((rd_T134 l0_5 x3_2).f1.f1.f1))).setCell ⟨gb167, 4, none⟩ (.int .i64 ((rd_T134 l0_5 x3_2).f1.f1.f2))).setCell ⟨gb167, 5, none⟩ (.slice A166_5 ((rd_T134 l0_5 x3_2).f1.f2).length c166_5))) := ⟨by repeat (first | (with_reducible first | exact HB.out | apply below_alloc | apply pw_below_drewN | apply below_drew1 | refine below_set ?_ GE164.out | refine below_set ?_ GE167.out) | exact HB.out)⟩
                        (try clear BK164)
                        (try clear BK167)
                        (try clear HB)
                        generalize ((((((w16.setCell ⟨gb167, 0, none⟩ (.int .i64 ((rd_T134 l0_5 x3_2).f0))).setCell ⟨gb167, 1, none⟩ (.int .i64 ((rd_T134 l0_5 x3_2).f1.f0))).setCell ⟨gb167, 2, none⟩ (.int .i64 ((rd_T134 l0_5 x3_2).f1.f1.f0))).setCell ⟨gb167, 3, none⟩ (.int .i64 ((rd_T134 l0_5 x3_2).f1.f1.f1))).setCell ⟨gb167, 4, none⟩ (.int .i64 ((rd_T134 l0_5 x3_2).f1.f1.f2))).setCell ⟨gb167, 5, none⟩ (.slice A166_5 ((rd_T134 l0_5 x3_2).f1.f2).length c166_5)) = w26 at n0_ n1_ n2_ ⊢
                        have BK164 := n0_
                        have BK167 := n1_
                        have HB := n2_
                        clear n0_ n1_ n2_
                        have n0_ := Aside0.mk (blk_drew BK164.out)
                        have n1_ := Aside0.mk (blk_drew BK167.out)
                        have n2_ := Aside0.mk (below_drew1 HB.out)
                        clear BK164
                        clear BK167
                        clear HB
                        have BK164 := n0_
                        have BK167 := n1_
                        have HB := n2_
                        clear n0_ n1_ n2_
                        have p168 : 0 ≤ (x3_2 : Int) := of_decide_eq_true Z97
                        have q168 : x3_2 < (l0_4.length : Int) := of_decide_eq_true Z97
                        obtain ⟨ad168, e168, hx168_0, hx168_1, hx168_2, hx168_3, hx168_4, hx168_5⟩ := at_T136 HR0_4.out x3_2 p168 q168
                        have hw168_5 := hx168_5
                        have hw168_4 := hx168_4
                        have hw168_3 := hx168_3
                        have hw168_2 := hx168_2
                        have hw168_1 := hx168_1
                        have hw168_0 := hx168_0
                        cases e168
                        replace hx168_0 := (HB.out.cell (World.block_lt_of_cell? w _ hx168_0)).trans hx168_0
                        replace hx168_1 := (HB.out.cell (World.block_lt_of_cell? w _ hx168_1)).trans hx168_1
                        replace hx168_2 := (HB.out.cell (World.block_lt_of_cell? w _ hx168_2)).trans hx168_2
                        replace hx168_3 := (HB.out.cell (World.block_lt_of_cell? w _ hx168_3)).trans hx168_3
                        replace hx168_4 := (HB.out.cell (World.block_lt_of_cell? w _ hx168_4)).trans hx168_4
                        replace hx168_5 := (HB.out.cell (World.block_lt_of_cell? w _ hx168_5)).trans hx168_5
                        replace p168 := eq_true p168
                        replace q168 := eq_true q168
                        refine start_ (n := 25) (S := fun w' => w'.cell? ⟨gb167, 0, none⟩ = some (.int .i64 ((rd_T134 l0_5 x3_2).f0)) ∧ w'.cell? ⟨gb167, 1, none⟩ = some (.int .i64 ((rd_T134 l0_5 x3_2).f1.f0)) ∧ w'.cell? ⟨gb167, 2, none⟩ = some (.int .i64 ((rd_T134 l0_5 x3_2).f1.f1.f0)) ∧ w'.cell? ⟨gb167, 3, none⟩ = some (.int .i64 ((rd_T134 l0_5 x3_2).f1.f1.f1)) ∧ w'.cell? ⟨gb167, 4, none⟩ = some (.int .i64 ((rd_T134 l0_5 x3_2).f1.f1.f2)) ∧ w'.cell? ⟨gb167, 5, none⟩ = some (.slice A166_5 ((rd_T134 l0_5 x3_2).f1.f2).length c166_5) ∧ w'.cell? ⟨gb164, 0, none⟩ = some (.int .i64 a0_0) ∧ w'.cell? ⟨gb164, 1, none⟩ = some (.int .i64 a0_1) ∧ w'.cell? ⟨gb164, 2, none⟩ = some (.int .i64 a0_2) ∧ w'.cell? ⟨gb164, 3, none⟩ = some (.int .i64 a0_3) ∧ w'.cell? ⟨gb164, 4, none⟩ = some (.slice (some ad168) l0_4.length c0_4) ∧ w'.cell? ⟨gb164, 5, none⟩ = some (.slice (some ad166) l0_5.length c0_5) ∧ w'.cell? (ad168.add ((x3_2).toNat * 6)) = some (.int .i64 ((rd_T136 l0_4 x3_2).f0)) ∧ w'.cell? ⟨(ad168.add ((x3_2).toNat * 6)).block, (ad168.add ((x3_2).toNat * 6)).off + 1, none⟩ = some (.int .i64 ((rd_T136 l0_4 x3_2).f1)) ∧ w'.cell? ⟨(ad168.add ((x3_2).toNat * 6)).block, (ad168.add ((x3_2).toNat * 6)).off + 2, none⟩ = some (.bool ((rd_T136 l0_4 x3_2).f2)) ∧ w'.cell? ⟨(ad168.add ((x3_2).toNat * 6)).block, (ad168.add ((x3_2).toNat * 6)).off + 3, none⟩ = some (.int .i64 ((rd_T136 l0_4 x3_2).f3.f0)) ∧ w'.cell? ⟨(ad168.add ((x3_2).toNat * 6)).block, (ad168.add ((x3_2).toNat * 6)).off + 4, none⟩ = some (.int .i64 ((rd_T136 l0_4 x3_2).f3.f1)) ∧ w'.cell? ⟨(ad168.add ((x3_2).toNat * 6)).block, (ad168.add ((x3_2).toNat * 6)).off + 5, none⟩ = some (.int .i64 ((rd_T136 l0_4 x3_2).f3.f2))) (ds := []) (bz 25 0) (by kernel_rfl) rfl (by kernel_rfl) ⟨(blk_cell BK167.out 0).trans rfl, (blk_cell BK167.out 1).trans rfl, (blk_cell BK167.out 2).trans rfl, (blk_cell BK167.out 3).trans rfl, (blk_cell BK167.out 4).trans rfl, (blk_cell BK167.out 5).trans rfl, (blk_cell BK164.out 0).trans rfl, (blk_cell BK164.out 1).trans rfl, (blk_cell BK164.out 2).trans rfl, (blk_cell BK164.out 3).trans rfl, (blk_cell BK164.out 4).trans rfl, (blk_cell BK164.out 5).trans rfl, ((HB.out.cell (World.block_lt_of_cell? w _ hw168_0)).trans hw168_0), ((HB.out.cell (World.block_lt_of_cell? w _ hw168_1)).trans hw168_1), ((HB.out.cell (World.block_lt_of_cell? w _ hw168_2)).trans hw168_2), ((HB.out.cell (World.block_lt_of_cell? w _ hw168_3)).trans hw168_3), ((HB.out.cell (World.block_lt_of_cell? w _ hw168_4)).trans hw168_4), ((HB.out.cell (World.block_lt_of_cell? w _ hw168_5)).trans hw168_5)⟩ (fun hHeld => ?_); refine with_tabW spec_TreeOk.tab7 spec_TreeOk.bits7 (fun HT_ HW_ => ?_)
                        generalize w26.drew = w27 at BK164 BK167 HB hx168_0 hx168_1 hx168_2 hx168_3 hx168_4 hx168_5 hHeld ⊢
                        refine px_ (i := 0) (N := some 31) (bz 25 1) (any_of HT_.out (by kernel_rfl)) ?_
                        refine px_ (i := 2) (N := some 33) (bz 25 5) (any_of HT_.out (by kernel_rfl)) ?_
                        refine px_ (i := 3) (N := some 34) (bz 25 13) (any_of HT_.out (by kernel_rfl)) ?_
                        refine px_ (i := 5) (N := some 36) (bz 25 45) (any_of HT_.out (by kernel_rfl)) ?_
                        refine tx_ (i := 1) (N := some 32) (bz 25 47) rfl rfl (take_ofW HT_.out HW_.out (by kernel_rfl)) hHeld Z49 ?_
                        refine tx_ (i := 4) (N := some 35) (bz 25 63) rfl rfl (take_ofW HT_.out HW_.out (by kernel_rfl)) hHeld Z49 ?_
                        refine px_ (i := 6) (N := some 37) (bz 25 127) (any_of HT_.out (by kernel_rfl)) ?_
                        refine px_ (i := 7) (N := some 38) (bz 25 255) (any_of HT_.out (by kernel_rfl)) ?_
                        refine tx_ (i := 8) (N := some 39) (bz 25 511) rfl rfl (take_ofW HT_.out HW_.out (by kernel_rfl)) hHeld Z49 ?_
                        refine px_ (i := 9) (N := some 40) (bz 25 1023) (any_of HT_.out (by kernel_rfl)) ?_
                        refine px_ (i := 10) (N := some 41) (bz 25 2047) (any_of HT_.out (by kernel_rfl)) ?_
                        refine px_ (i := 11) (N := some 42) (bz 25 4095) (any_of HT_.out (by kernel_rfl)) ?_
                        refine px_ (i := 12) (N := some 43) (bz 25 8191) (any_of HT_.out (by kernel_rfl)) ?_
                        refine px_ (i := 14) (N := some 45) (bz 25 24575) (any_of HT_.out (by kernel_rfl)) ?_
                        refine px_ (i := 15) (N := some 46) (bz 25 57343) (any_of HT_.out (by kernel_rfl)) ?_
                        refine tx_ (i := 13) (N := some 44) (bz 25 65535) rfl rfl (take_ofW HT_.out HW_.out (by kernel_rfl)) hHeld Z49 ?_
                        refine tx_ (i := 16) (N := some 47) (bz 25 131071) rfl rfl (take_ofW HT_.out HW_.out (by kernel_rfl)) hHeld Z49 ?_
                        refine px_ (i := 17) (N := some 48) (bz 25 262143) (any_of HT_.out (by kernel_rfl)) ?_
                        refine px_ (i := 18) (N := some 49) (bz 25 524287) (any_of HT_.out (by kernel_rfl)) ?_
                        refine px_ (i := 19) (N := some 50) (bz 25 1048575) (any_of HT_.out (by kernel_rfl)) ?_
                        refine ox_ (i := 20) (N := some 51) (bz 25 2097151) (any_of HT_.out (by kernel_rfl)) ?_
                        refine ox_ (i := 21) (N := some 52) (bz 25 4194303) (any_of HT_.out (by kernel_rfl)) ?_
                        refine ox_ (i := 22) (N := some 53) (bz 25 8388607) (any_of HT_.out (by kernel_rfl)) ?_
                        refine ox_ (i := 23) (N := some 54) (bz 25 16777215) (any_of HT_.out (by kernel_rfl)) ?_
                        refine px_ (i := 24) (N := some 55) (bz 25 33554431) (any_of HT_.out (by kernel_rfl)) ?_
                        refine done_ (done_of HT_.out (by kernel_rfl)) ?_
                        try go_wp2
                        go_meet
                        case rel => exact ⟨_, (true), Z98, H', ⟨by have := HJ1.out; have := HK2.out; first | omega | exact Nat.le_refl _⟩, ⟨by (with_reducible repeat (first | refine blk_drewN ?_ _ | refine blk_drew ?_ | refine blk_alloc ?_ _)); exact BK164.out⟩, ⟨by (with_reducible repeat (first | refine blk_drewN ?_ _ | refine blk_drew ?_ | refine blk_alloc ?_ _)); exact BK167.out⟩, ⟨by repeat (first | (with_reducible first | exact HB.out | apply below_alloc | apply pw_below_drewN | apply below_drew1 | refine below_set ?_ GE164.out | refine below_set ?_ GE167.out) | exact HB.out)⟩⟩
                    · rw [if_neg c20] at H
                      have c20b0 : (((rd_T134 l0_5 x3_2).f0) == ((rd_T136 l0_4 x3_2).f0)) = false := beq_eq_false_iff_ne.mpr c20
                      have c20b1 : (((rd_T134 l0_5 x3_2).f0) != ((rd_T136 l0_4 x3_2).f0)) = true := bne_iff_ne.mpr c20
                      have H' := Aside0.mk H
                      clear H
                      try go_wp2
                      have n0_ : Aside0 (((((((w16.setCell ⟨gb167, 0, none⟩ (.int .i64 ((rd_T134 l0_5 x3_2).f0))).setCell ⟨gb167, 1, none⟩ (.int .i64 ((rd_T134 l0_5 x3_2).f1.f0))).setCell ⟨gb167, 2, none⟩ (.int .i64 ((rd_T134 l0_5 x3_2).f1.f1.f0))).setCell ⟨gb167, 3, none⟩ (.int .i64 ((rd_T134 l0_5 x3_2).f1.f1.f1))).setCell ⟨gb167, 4, none⟩ (.int .i64 ((rd_T134 l0_5 x3_2).f1.f1.f2))).setCell ⟨gb167, 5, none⟩ (.slice A166_5 ((rd_T134 l0_5 x3_2).f1.f2).length c166_5)).heap[gb164]? = some (.cells #[.int .i64 a0_0, .int .i64 a0_1, .int .i64 a0_2, .int .i64 a0_3, .slice A0_4 l0_4.length c0_4, .slice (some ad166) l0_5.length c0_5] 55 (0, 0))) := ⟨by (with_reducible repeat (first | refine blk_drewN ?_ _ | refine blk_drew ?_ | refine blk_alloc ?_ _)); refine blk_far ?_ NB164_167.out _; (with_reducible repeat (first | refine blk_drewN ?_ _ | refine blk_drew ?_ | refine blk_alloc ?_ _)); refine blk_far ?_ NB164_167.out _; (with_reducible repeat (first | refine blk_drewN ?_ _ | refine blk_drew ?_ | refine blk_alloc ?_ _)); refine blk_far ?_ NB164_167.out _; (with_reducible repeat (first | refine blk_drewN ?_ _ | refine blk_drew ?_ | refine blk_alloc ?_ _)); refine blk_far ?_ NB164_167.out _; (with_reducible repeat (first | refine blk_drewN ?_ _ | refine blk_drew ?_ | refine blk_alloc ?_ _)); refine blk_far ?_ NB164_167.out _; (with_reducible repeat (first | refine blk_drewN ?_ _ | refine blk_drew ?_ | refine blk_alloc ?_ _)); refine blk_far ?_ NB164_167.out _; (with_reducible repeat (first | refine blk_drewN ?_ _ | refine blk_drew ?_ | refine blk_alloc ?_ _)); exact BK164.out⟩
                      have n1_ : Aside0 (((((((w16.setCell ⟨gb167, 0, none⟩ (.int .i64 ((rd_T134 l0_5 x3_2).f0))).setCell ⟨gb167, 1, none⟩ (.int .i64 ((rd_T134 l0_5 x3_2).f1.f0))).setCell ⟨gb167, 2, none⟩ (.int .i64 ((rd_T134 l0_5 x3_2).f1.f1.f0))).setCell ⟨gb167, 3, none⟩ (.int .i64 ((rd_T134 l0_5 x3_2).f1.f1.f1))).setCell ⟨gb167, 4, none⟩ (.int .i64 ((rd_T134 l0_5 x3_2).f1.f1.f2))).setCell ⟨gb167, 5, none⟩ (.slice A166_5 ((rd_T134 l0_5 x3_2).f1.f2).length c166_5)).heap[gb167]? = some (.cells #[.int .i64 ((rd_T134 l0_5 x3_2).f0), .int .i64 ((rd_T134 l0_5 x3_2).f1.f0), .int .i64 ((rd_T134 l0_5 x3_2).f1.f1.f0), .int .i64 ((rd_T134 l0_5 x3_2).f1.f1.f1), .int .i64 ((rd_T134 l0_5 x3_2).f1.f1.f2), .slice A166_5 ((rd_T134 l0_5 x3_2).f1.f2).length c166_5] 134 (0, 0))) := ⟨by (with_reducible repeat (first | refine blk_drewN ?_ _ | refine blk_drew ?_ | refine blk_alloc ?_ _)); refine blk_put (cs := #[.int .i64 ((rd_T134 l0_5 x3_2).f0), .int .i64 ((rd_T134 l0_5 x3_2).f1.f0), .int .i64 ((rd_T134 l0_5 x3_2).f1.f1.f0), .int .i64 ((rd_T134 l0_5 x3_2).f1.f1.f1), .int .i64 ((rd_T134 l0_5 x3_2).f1.f1.f2), .slice none 0 0]) ?_ 5 _ rfl; (with_reducible repeat (first | refine blk_drewN ?_ _ | refine blk_drew ?_ | refine blk_alloc ?_ _)); refine blk_put (cs := #[.int .i64 ((rd_T134 l0_5 x3_2).f0), .int .i64 ((rd_T134 l0_5 x3_2).f1.f0), .int .i64 ((rd_T134 l0_5 x3_2).f1.f1.f0), .int .i64 ((rd_T134 l0_5 x3_2).f1.f1.f1), .int .i64 0, .slice none 0 0]) ?_ 4 _ rfl; (with_reducible repeat (first | refine blk_drewN ?_ _ | refine blk_drew ?_ | refine blk_alloc ?_ _)); refine blk_put (cs := #[.int .i64 ((rd_T134 l0_5 x3_2).f0), .int .i64 ((rd_T134 l0_5 x3_2).f1.f0), .int .i64 ((rd_T134 l0_5 x3_2).f1.f1.f0), .int .i64 0, .int .i64 0, .slice none 0 0]) ?_ 3 _ rfl; (with_reducible repeat (first | refine blk_drewN ?_ _ | refine blk_drew ?_ | refine blk_alloc ?_ _)); refine blk_put (cs := #[.int .i64 ((rd_T134 l0_5 x3_2).f0), .int .i64 ((rd_T134 l0_5 x3_2).f1.f0), .int .i64 0, .int .i64 0, .int .i64 0, .slice none 0 0]) ?_ 2 _ rfl; (with_reducible repeat (first | refine blk_drewN ?_ _ | refine blk_drew ?_ | refine blk_alloc ?_ _)); refine blk_put (cs := #[.int .i64 ((rd_T134 l0_5 x3_2).f0), .int .i64 0, .int .i64 0, .int .i64 0, .int .i64 0, .slice none 0 0]) ?_ 1 _ rfl; (with_reducible repeat (first | refine blk_drewN ?_ _ | refine blk_drew ?_ | refine blk_alloc ?_ _)); refine blk_put (cs := #[.int .i64 0, .int .i64 0, .int .i64 0, .int .i64 0, .int .i64 0, .slice none 0 0]) ?_ 0 _ rfl; (with_reducible repeat (first | refine blk_drewN ?_ _ | refine blk_drew ?_ | refine blk_alloc ?_ _)); exact BK167.out⟩
                      have n2_ : Aside0 (Below w.heap.size w ((((((w16.setCell ⟨gb167, 0, none⟩ (.int .i64 ((rd_T134 l0_5 x3_2).f0))).setCell ⟨gb167, 1, none⟩ (.int .i64 ((rd_T134 l0_5 x3_2).f1.f0))).setCell ⟨gb167, 2, none⟩ (.int .i64 ((rd_T134 l0_5 x3_2).f1.f1.f0))).setCell ⟨gb167, 3, none⟩ (.int .i64 ((rd_T134 l0_5 x3_2).f1.f1.f1))).setCell ⟨gb167, 4, none⟩ (.int .i64 ((rd_T134 l0_5 x3_2).f1.f1.f2))).setCell ⟨gb167, 5, none⟩ (.slice A166_5 ((rd_T134 l0_5 x3_2).f1.f2).length c166_5))) := ⟨by repeat (first | (with_reducible first | exact HB.out | apply below_alloc | apply pw_below_drewN | apply below_drew1 | refine below_set ?_ GE164.out | refine below_set ?_ GE167.out) | exact HB.out)⟩
                      (try clear BK164)
                      (try clear BK167)
                      (try clear HB)
                      generalize ((((((w16.setCell ⟨gb167, 0, none⟩ (.int .i64 ((rd_T134 l0_5 x3_2).f0))).setCell ⟨gb167, 1, none⟩ (.int .i64 ((rd_T134 l0_5 x3_2).f1.f0))).setCell ⟨gb167, 2, none⟩ (.int .i64 ((rd_T134 l0_5 x3_2).f1.f1.f0))).setCell ⟨gb167, 3, none⟩ (.int .i64 ((rd_T134 l0_5 x3_2).f1.f1.f1))).setCell ⟨gb167, 4, none⟩ (.int .i64 ((rd_T134 l0_5 x3_2).f1.f1.f2))).setCell ⟨gb167, 5, none⟩ (.slice A166_5 ((rd_T134 l0_5 x3_2).f1.f2).length c166_5)) = w28 at n0_ n1_ n2_ ⊢
                      have BK164 := n0_
                      have BK167 := n1_
                      have HB := n2_
                      clear n0_ n1_ n2_
                      have n0_ := Aside0.mk (blk_drew BK164.out)
                      have n1_ := Aside0.mk (blk_drew BK167.out)
                      have n2_ := Aside0.mk (below_drew1 HB.out)
                      clear BK164
                      clear BK167
                      clear HB
                      have BK164 := n0_
                      have BK167 := n1_
                      have HB := n2_
                      clear n0_ n1_ n2_
                      have p168 : 0 ≤ (x3_2 : Int) := of_decide_eq_true Z97
                      have q168 : x3_2 < (l0_4.length : Int) := of_decide_eq_true Z97
                      obtain ⟨ad168, e168, hx168_0, hx168_1, hx168_2, hx168_3, hx168_4, hx168_5⟩ := at_T136 HR0_4.out x3_2 p168 q168
                      have hw168_5 := hx168_5
                      have hw168_4 := hx168_4
                      have hw168_3 := hx168_3
                      have hw168_2 := hx168_2
                      have hw168_1 := hx168_1
                      have hw168_0 := hx168_0
                      cases e168
                      replace hx168_0 := (HB.out.cell (World.block_lt_of_cell? w _ hx168_0)).trans hx168_0
                      replace hx168_1 := (HB.out.cell (World.block_lt_of_cell? w _ hx168_1)).trans hx168_1
                      replace hx168_2 := (HB.out.cell (World.block_lt_of_cell? w _ hx168_2)).trans hx168_2
                      replace hx168_3 := (HB.out.cell (World.block_lt_of_cell? w _ hx168_3)).trans hx168_3
                      replace hx168_4 := (HB.out.cell (World.block_lt_of_cell? w _ hx168_4)).trans hx168_4
                      replace hx168_5 := (HB.out.cell (World.block_lt_of_cell? w _ hx168_5)).trans hx168_5
                      replace p168 := eq_true p168
                      replace q168 := eq_true q168
                      refine start_ (n := 25) (S := fun w' => w'.cell? ⟨gb167, 0, none⟩ = some (.int .i64 ((rd_T134 l0_5 x3_2).f0)) ∧ w'.cell? ⟨gb167, 1, none⟩ = some (.int .i64 ((rd_T134 l0_5 x3_2).f1.f0)) ∧ w'.cell? ⟨gb167, 2, none⟩ = some (.int .i64 ((rd_T134 l0_5 x3_2).f1.f1.f0)) ∧ w'.cell? ⟨gb167, 3, none⟩ = some (.int .i64 ((rd_T134 l0_5 x3_2).f1.f1.f1)) ∧ w'.cell? ⟨gb167, 4, none⟩ = some (.int .i64 ((rd_T134 l0_5 x3_2).f1.f1.f2)) ∧ w'.cell? ⟨gb167, 5, none⟩ = some (.slice A166_5 ((rd_T134 l0_5 x3_2).f1.f2).length c166_5) ∧ w'.cell? ⟨gb164, 0, none⟩ = some (.int .i64 a0_0) ∧ w'.cell? ⟨gb164, 1, none⟩ = some (.int .i64 a0_1) ∧ w'.cell? ⟨gb164, 2, none⟩ = some (.int .i64 a0_2) ∧ w'.cell? ⟨gb164, 3, none⟩ = some (.int .i64 a0_3) ∧ w'.cell? ⟨gb164, 4, none⟩ = some (.slice (some ad168) l0_4.length c0_4) ∧ w'.cell? ⟨gb164, 5, none⟩ = some (.slice (some ad166) l0_5.length c0_5) ∧ w'.cell? (ad168.add ((x3_2).toNat * 6)) = some (.int .i64 ((rd_T136 l0_4 x3_2).f0)) ∧ w'.cell? ⟨(ad168.add ((x3_2).toNat * 6)).block, (ad168.add ((x3_2).toNat * 6)).off + 1, none⟩ = some (.int .i64 ((rd_T136 l0_4 x3_2).f1)) ∧ w'.cell? ⟨(ad168.add ((x3_2).toNat * 6)).block, (ad168.add ((x3_2).toNat * 6)).off + 2, none⟩ = some (.bool ((rd_T136 l0_4 x3_2).f2)) ∧ w'.cell? ⟨(ad168.add ((x3_2).toNat * 6)).block, (ad168.add ((x3_2).toNat * 6)).off + 3, none⟩ = some (.int .i64 ((rd_T136 l0_4 x3_2).f3.f0)) ∧ w'.cell? ⟨(ad168.add ((x3_2).toNat * 6)).block, (ad168.add ((x3_2).toNat * 6)).off + 4, none⟩ = some (.int .i64 ((rd_T136 l0_4 x3_2).f3.f1)) ∧ w'.cell? ⟨(ad168.add ((x3_2).toNat * 6)).block, (ad168.add ((x3_2).toNat * 6)).off + 5, none⟩ = some (.int .i64 ((rd_T136 l0_4 x3_2).f3.f2))) (ds := []) (bz 25 0) (by kernel_rfl) rfl (by kernel_rfl) ⟨(blk_cell BK167.out 0).trans rfl, (blk_cell BK167.out 1).trans rfl, (blk_cell BK167.out 2).trans rfl, (blk_cell BK167.out 3).trans rfl, (blk_cell BK167.out 4).trans rfl, (blk_cell BK167.out 5).trans rfl, (blk_cell BK164.out 0).trans rfl, (blk_cell BK164.out 1).trans rfl, (blk_cell BK164.out 2).trans rfl, (blk_cell BK164.out 3).trans rfl, (blk_cell BK164.out 4).trans rfl, (blk_cell BK164.out 5).trans rfl, ((HB.out.cell (World.block_lt_of_cell? w _ hw168_0)).trans hw168_0), ((HB.out.cell (World.block_lt_of_cell? w _ hw168_1)).trans hw168_1), ((HB.out.cell (World.block_lt_of_cell? w _ hw168_2)).trans hw168_2), ((HB.out.cell (World.block_lt_of_cell? w _ hw168_3)).trans hw168_3), ((HB.out.cell (World.block_lt_of_cell? w _ hw168_4)).trans hw168_4), ((HB.out.cell (World.block_lt_of_cell? w _ hw168_5)).trans hw168_5)⟩ (fun hHeld => ?_); refine with_tabW spec_TreeOk.tab7 spec_TreeOk.bits7 (fun HT_ HW_ => ?_)
                      generalize w28.drew = w29 at BK164 BK167 HB hx168_0 hx168_1 hx168_2 hx168_3 hx168_4 hx168_5 hHeld ⊢
                      refine px_ (i := 0) (N := some 31) (bz 25 1) (any_of HT_.out (by kernel_rfl)) ?_
                      refine px_ (i := 2) (N := some 33) (bz 25 5) (any_of HT_.out (by kernel_rfl)) ?_
                      refine px_ (i := 3) (N := some 34) (bz 25 13) (any_of HT_.out (by kernel_rfl)) ?_
                      refine px_ (i := 5) (N := some 36) (bz 25 45) (any_of HT_.out (by kernel_rfl)) ?_
                      refine tx_ (i := 1) (N := some 32) (bz 25 47) rfl rfl (take_ofW HT_.out HW_.out (by kernel_rfl)) hHeld Z49 ?_
                      refine tx_ (i := 4) (N := some 35) (bz 25 63) rfl rfl (take_ofW HT_.out HW_.out (by kernel_rfl)) hHeld Z49 ?_
                      refine px_ (i := 6) (N := some 37) (bz 25 127) (any_of HT_.out (by kernel_rfl)) ?_
                      refine px_ (i := 7) (N := some 38) (bz 25 255) (any_of HT_.out (by kernel_rfl)) ?_
                      refine tx_ (i := 8) (N := some 39) (bz 25 511) rfl rfl (take_ofW HT_.out HW_.out (by kernel_rfl)) hHeld Z49 ?_
                      refine px_ (i := 9) (N := some 40) (bz 25 1023) (any_of HT_.out (by kernel_rfl)) ?_
                      refine px_ (i := 10) (N := some 41) (bz 25 2047) (any_of HT_.out (by kernel_rfl)) ?_
                      refine ox_ (i := 11) (N := some 42) (bz 25 4095) (any_of HT_.out (by kernel_rfl)) ?_
                      refine ox_ (i := 12) (N := some 43) (bz 25 8191) (any_of HT_.out (by kernel_rfl)) ?_
                      refine ox_ (i := 13) (N := some 44) (bz 25 16383) (any_of HT_.out (by kernel_rfl)) ?_
                      refine ox_ (i := 14) (N := some 45) (bz 25 32767) (any_of HT_.out (by kernel_rfl)) ?_
                      refine ox_ (i := 15) (N := some 46) (bz 25 65535) (any_of HT_.out (by kernel_rfl)) ?_
                      refine ox_ (i := 16) (N := some 47) (bz 25 131071) (any_of HT_.out (by kernel_rfl)) ?_
                      refine ox_ (i := 17) (N := some 48) (bz 25 262143) (any_of HT_.out (by kernel_rfl)) ?_
                      refine px_ (i := 18) (N := some 49) (bz 25 524287) (any_of HT_.out (by kernel_rfl)) ?_
                      refine px_ (i := 19) (N := some 50) (bz 25 1048575) (any_of HT_.out (by kernel_rfl)) ?_
                      refine ox_ (i := 20) (N := some 51) (bz 25 2097151) (any_of HT_.out (by kernel_rfl)) ?_
                      refine ox_ (i := 21) (N := some 52) (bz 25 4194303) (any_of HT_.out (by kernel_rfl)) ?_
                      refine ox_ (i := 22) (N := some 53) (bz 25 8388607) (any_of HT_.out (by kernel_rfl)) ?_
                      refine ox_ (i := 23) (N := some 54) (bz 25 16777215) (any_of HT_.out (by kernel_rfl)) ?_
                      refine px_ (i := 24) (N := some 55) (bz 25 33554431) (any_of HT_.out (by kernel_rfl)) ?_
                      refine done_ (done_of HT_.out (by kernel_rfl)) ?_
                      try go_wp2
                      go_meet
                      case rel => exact ⟨_, (true), Z98, H', ⟨by have := HJ1.out; have := HK2.out; first | omega | exact Nat.le_refl _⟩, ⟨by (with_reducible repeat (first | refine blk_drewN ?_ _ | refine blk_drew ?_ | refine blk_alloc ?_ _)); exact BK164.out⟩, ⟨by (with_reducible repeat (first | refine blk_drewN ?_ _ | refine blk_drew ?_ | refine blk_alloc ?_ _)); exact BK167.out⟩, ⟨by repeat (first | (with_reducible first | exact HB.out | apply below_alloc | apply pw_below_drewN | apply below_drew1 | refine below_set ?_ GE164.out | refine below_set ?_ GE167.out) | exact HB.out)⟩⟩
                  · rw [if_neg c19] at H
                    exact absurd H (by simp)
                case rest =>
                  clear HC14
                  try clear c1
                  try clear p1
                  try clear q1
                  try clear hx1
                  try clear c2
                  try clear p2
                  try clear c5
                  try clear c11
                  try clear c12
                  try clear c12b0
                  try clear c13
                  try clear c13b0
                  try clear c16
                  try clear p16
                  try clear q16
                  try clear hx16
                  try clear c17
                  try clear c19
                  try clear c19b0
                  try clear c20
                  try clear c20b0
                  try clear c20b1
                  try clear c21
                  try clear c21b0
                  try clear c21b1
                  try clear hcz15_0
                  try clear hcz15_1
                  try clear hcz15_2
                  try clear hcz15_3
                  try clear hcz15_4
                  try clear hcz15_5
                  try clear hcz18_0
                  try clear hcz18_1
                  try clear hcz18_2
                  try clear hcz18_3
                  try clear hcz18_4
                  try clear hcz18_5
                  try clear hcz6_0
                  try clear hcz6_1
                  try clear hcz6_2
                  try clear hcz6_3
                  try clear hcz6_4
                  try clear hcz6_5
                  try clear hcz8_0
                  try clear hcz8_1
                  try clear hcz8_2
                  try clear hcz8_3
                  try clear hcz8_4
                  try clear hcz8_5
                  try clear hcz9_0
                  try clear hcz9_1
                  try clear hcz9_2
                  try clear hcz9_3
                  try clear hcz9_4
                  try clear hcz9_5
                  try clear hfz15_0
                  try clear hfz15_1
                  try clear hfz15_2
                  try clear hfz15_3
                  try clear hfz15_4
                  try clear hfz15_5
                  try clear hfz18_0
                  try clear hfz18_1
                  try clear hfz18_2
                  try clear hfz18_3
                  try clear hfz18_4
                  try clear hfz18_5
                  try clear hfz6_0
                  try clear hfz6_1
                  try clear hfz6_2
                  try clear hfz6_3
                  try clear hfz6_4
                  try clear hfz6_5
                  try clear hfz8_0
                  try clear hfz8_1
                  try clear hfz8_2
                  try clear hfz8_3
                  try clear hfz8_4
                  try clear hfz8_5
                  try clear hfz9_0
                  try clear hfz9_1
                  try clear hfz9_2
                  try clear hfz9_3
                  try clear hfz9_4
                  try clear hfz9_5
                  try clear hx166_0
                  try clear hx166_1
                  try clear hx166_2
                  try clear hx166_3
                  try clear hx166_4
                  try clear hx166_5
                  try clear hx168_0
                  try clear hx168_1
                  try clear hx168_2
                  try clear hx168_3
                  try clear hx168_4
                  try clear hx168_5
                  try clear p166
                  try clear p168
                  try clear p2
                  try clear q166
                  try clear q168
                  obtain ⟨kq, x55_13, rfl, HA, HJ13, BK164, BK167, HB⟩ := hcut
                  cases kq with
                  | zero => exact absurd HA.out (by simp [spec_TreeOk.j2])
                  | succ kj13 =>
                    have H := HA.out
                    clear HA
                    simp only [spec_TreeOk.j2] at H
                    by_cases c30 : x55_13 = true
                    · subst c30
                      have H1 : (some false) = some r := by rw [if_pos rfl] at H; exact H
                      clear H
                      have H := H1
                      clear H1
                      obtain rfl := Option.some.inj H
                      go_wp2
                      go_ret
                      exact ⟨by first | rfl | (simp [errW_none, errW_some] <;> rfl) | (simp [*, errW_none, errW_some] <;> rfl), by repeat (first | (with_reducible first | exact HB.out | apply below_alloc | apply pw_below_drewN | apply below_drew1 | refine below_set ?_ GE164.out | refine below_set ?_ GE167.out) | exact HB.out)⟩
                    · replace c30 := Bool.eq_false_iff.mpr c30
                      subst c30
                      have H1 : (if 0 ≤ x3_2 then (if x3_2 < (l0_4.length : Int) then ((spec_l19Busy.f kj13 ((rd_T134 l0_5 x3_2).f1.f0) ((rd_T134 l0_5 x3_2).f1.f1.f0) ((rd_T134 l0_5 x3_2).f1.f1.f1) ((rd_T134 l0_5 x3_2).f1.f1.f2) ((rd_T134 l0_5 x3_2).f1.f2)).bind fun t171 => (if (((rd_T136 l0_4 x3_2).f2) != (decide ((t171.length : Int) > 0))) = true then (some false) else (spec_TreeOk.l0 kj13 (wrap64 (x3_2 + 1)) a0_0 a0_1 a0_2 a0_3 l0_4 l0_5))) else (none)) else (none)) = some r := by rw [if_neg (show ¬ (false = true) by decide)] at H; exact H
                      clear H
                      have H := H1
                      clear H1
                      by_cases c31 : 0 ≤ x3_2
                      · rw [if_pos c31] at H
                        have c31b0 : decide (0 ≤ x3_2) = true := decide_eq_true c31
                        clear c31
                        by_cases c32 : x3_2 < (l0_4.length : Int)
                        · rw [if_pos c32] at H
                          have c32b0 : decide (x3_2 < (l0_4.length : Int)) = true := decide_eq_true c32
                          clear c32
                          replace H := Option.bind_eq_some_iff.mp H
                          obtain ⟨t171, A330, H⟩ := H
                          replace H : (if (((rd_T136 l0_4 x3_2).f2) != (decide ((t171.length : Int) > 0))) = true then (some false) else (spec_TreeOk.l0 kj13 (wrap64 (x3_2 + 1)) a0_0 a0_1 a0_2 a0_3 l0_4 l0_5)) = some r := H
                          have A33 := Aside0.mk A330
                          clear A330
                          have HU34 := Aside0.mk H
                          clear H
                          try go_wp2
                          have n0_ := Aside0.mk (blk_drew BK164.out)
                          have n1_ := Aside0.mk (blk_drew BK167.out)
                          have n2_ := Aside0.mk (below_drew1 HB.out)
                          clear BK164
                          clear BK167
                          clear HB
                          have BK164 := n0_
                          have BK167 := n1_
                          have HB := n2_
                          clear n0_ n1_ n2_
                          have p170 : 0 ≤ (x3_2 : Int) := of_decide_eq_true Z97
                          have q170 : x3_2 < (l0_4.length : Int) := of_decide_eq_true Z97
                          obtain ⟨ad170, e170, hx170_0, hx170_1, hx170_2, hx170_3, hx170_4, hx170_5⟩ := at_T136 HR0_4.out x3_2 p170 q170
                          have hw170_5 := hx170_5
                          have hw170_4 := hx170_4
                          have hw170_3 := hx170_3
                          have hw170_2 := hx170_2
                          have hw170_1 := hx170_1
                          have hw170_0 := hx170_0
                          cases e170
                          replace hx170_0 := (HB.out.cell (World.block_lt_of_cell? w _ hx170_0)).trans hx170_0
                          replace hx170_1 := (HB.out.cell (World.block_lt_of_cell? w _ hx170_1)).trans hx170_1
                          replace hx170_2 := (HB.out.cell (World.block_lt_of_cell? w _ hx170_2)).trans hx170_2
                          replace hx170_3 := (HB.out.cell (World.block_lt_of_cell? w _ hx170_3)).trans hx170_3
                          replace hx170_4 := (HB.out.cell (World.block_lt_of_cell? w _ hx170_4)).trans hx170_4
                          replace hx170_5 := (HB.out.cell (World.block_lt_of_cell? w _ hx170_5)).trans hx170_5
                          replace p170 := eq_true p170
                          replace q170 := eq_true q170
                          refine start_ (n := 13) (S := fun w' => w'.cell? ⟨gb164, 0, none⟩ = some (.int .i64 a0_0) ∧ w'.cell? ⟨gb164, 1, none⟩ = some (.int .i64 a0_1) ∧ w'.cell? ⟨gb164, 2, none⟩ = some (.int .i64 a0_2) ∧ w'.cell? ⟨gb164, 3, none⟩ = some (.int .i64 a0_3) ∧ w'.cell? ⟨gb164, 4, none⟩ = some (.slice (some ad170) l0_4.length c0_4) ∧ w'.cell? ⟨gb164, 5, none⟩ = some (.slice (some ad166) l0_5.length c0_5) ∧ w'.cell? ⟨gb167, 0, none⟩ = some (.int .i64 ((rd_T134 l0_5 x3_2).f0)) ∧ w'.cell? ⟨gb167, 1, none⟩ = some (.int .i64 ((rd_T134 l0_5 x3_2).f1.f0)) ∧ w'.cell? ⟨gb167, 2, none⟩ = some (.int .i64 ((rd_T134 l0_5 x3_2).f1.f1.f0)) ∧ w'.cell? ⟨gb167, 3, none⟩ = some (.int .i64 ((rd_T134 l0_5 x3_2).f1.f1.f1)) ∧ w'.cell? ⟨gb167, 4, none⟩ = some (.int .i64 ((rd_T134 l0_5 x3_2).f1.f1.f2)) ∧ w'.cell? ⟨gb167, 5, none⟩ = some (.slice A166_5 ((rd_T134 l0_5 x3_2).f1.f2).length c166_5) ∧ w'.cell? (ad170.add ((x3_2).toNat * 6)) = some (.int .i64 ((rd_T136 l0_4 x3_2).f0)) ∧ w'.cell? ⟨(ad170.add ((x3_2).toNat * 6)).block, (ad170.add ((x3_2).toNat * 6)).off + 1, none⟩ = some (.int .i64 ((rd_T136 l0_4 x3_2).f1)) ∧ w'.cell? ⟨(ad170.add ((x3_2).toNat * 6)).block, (ad170.add ((x3_2).toNat * 6)).off + 2, none⟩ = some (.bool ((rd_T136 l0_4 x3_2).f2)) ∧ w'.cell? ⟨(ad170.add ((x3_2).toNat * 6)).block, (ad170.add ((x3_2).toNat * 6)).off + 3, none⟩ = some (.int .i64 ((rd_T136 l0_4 x3_2).f3.f0)) ∧ w'.cell? ⟨(ad170.add ((x3_2).toNat * 6)).block, (ad170.add ((x3_2).toNat * 6)).off + 4, none⟩ = some (.int .i64 ((rd_T136 l0_4 x3_2).f3.f1)) ∧ w'.cell? ⟨(ad170.add ((x3_2).toNat * 6)).block, (ad170.add ((x3_2).toNat * 6)).off + 5, none⟩ = some (.int .i64 ((rd_T136 l0_4 x3_2).f3.f2))) (ds := []) (bz 13 0) (by kernel_rfl) rfl (by kernel_rfl) ⟨(blk_cell BK164.out 0).trans rfl, (blk_cell BK164.out 1).trans rfl, (blk_cell BK164.out 2).trans rfl, (blk_cell BK164.out 3).trans rfl, (blk_cell BK164.out 4).trans rfl, (blk_cell BK164.out 5).trans rfl, (blk_cell BK167.out 0).trans rfl, (blk_cell BK167.out 1).trans rfl, (blk_cell BK167.out 2).trans rfl, (blk_cell BK167.out 3).trans rfl, (blk_cell BK167.out 4).trans rfl, (blk_cell BK167.out 5).trans rfl, ((HB.out.cell (World.block_lt_of_cell? w _ hw170_0)).trans hw170_0), ((HB.out.cell (World.block_lt_of_cell? w _ hw170_1)).trans hw170_1), ((HB.out.cell (World.block_lt_of_cell? w _ hw170_2)).trans hw170_2), ((HB.out.cell (World.block_lt_of_cell? w _ hw170_3)).trans hw170_3), ((HB.out.cell (World.block_lt_of_cell? w _ hw170_4)).trans hw170_4), ((HB.out.cell (World.block_lt_of_cell? w _ hw170_5)).trans hw170_5)⟩ (fun hHeld => ?_); refine with_tabW spec_TreeOk.tab9 spec_TreeOk.bits9 (fun HT_ HW_ => ?_)
                          generalize wc.drew = w35 at BK164 BK167 HB hx170_0 hx170_1 hx170_2 hx170_3 hx170_4 hx170_5 hHeld ⊢
                          refine px_ (i := 0) (N := some 56) (bz 13 1) (any_of HT_.out (by kernel_rfl)) ?_
                          refine px_ (i := 1) (N := some 57) (bz 13 3) (any_of HT_.out (by kernel_rfl)) ?_
                          refine px_ (i := 3) (N := some 59) (bz 13 11) (any_of HT_.out (by kernel_rfl)) ?_
                          refine px_ (i := 7) (N := some 63) (bz 13 139) (any_of HT_.out (by kernel_rfl)) ?_
                          refine tx_ (i := 2) (N := some 58) (bz 13 143) rfl rfl (take_ofW HT_.out HW_.out (by kernel_rfl)) hHeld Z49 ?_
                          refine px_ (i := 4) (N := some 60) (bz 13 159) (any_of HT_.out (by kernel_rfl)) ?_
                          refine px_ (i := 5) (N := some 61) (bz 13 191) (any_of HT_.out (by kernel_rfl)) ?_
                          refine tx_ (i := 6) (N := some 62) (bz 13 255) rfl rfl (take_ofW HT_.out HW_.out (by kernel_rfl)) hHeld Z49 ?_
                          refine tx_ (i := 8) (N := some 64) (bz 13 511) rfl rfl (take_ofW HT_.out HW_.out (by kernel_rfl)) hHeld Z49 ?_
                          refine one_ (i := 9) (N := some 65) (bz 13 1023) rfl rfl (one_of HT_.out (by kernel_rfl)) (by decide) (fun K hK => ?_)
                          refine goes_ Try.func114 (by kernel_rfl) rfl #[.agg #[.int .i64 ((rd_T134 l0_5 x3_2).f1.f0), .int .i64 ((rd_T134 l0_5 x3_2).f1.f1.f0), .int .i64 ((rd_T134 l0_5 x3_2).f1.f1.f1), .int .i64 ((rd_T134 l0_5 x3_2).f1.f1.f2), .slice A166_5 ((rd_T134 l0_5 x3_2).f1.f2).length c166_5]] (by rfl) rfl rfl Z41 ?_
                          with_reducible refine (spec_l19Busy.calls kj13 ((rd_T134 l0_5 x3_2).f1.f0) ((rd_T134 l0_5 x3_2).f1.f1.f0) ((rd_T134 l0_5 x3_2).f1.f1.f1) ((rd_T134 l0_5 x3_2).f1.f1.f2) _ _ ((rd_T134 l0_5 x3_2).f1.f2) t171 _ ?side1 ?side2 A33.out).mono ?_
                          (case side1 => repeat (first | exact (Kd.C_below HR166_5.out HB.out) | (with_reducible refine Kd.C_alloc ?_ _) | (with_reducible refine Kd.C_drewN ?_ _) | (with_reducible refine Kd.C_drew ?_)))
                          (case side2 => exact HC166_5.out)
                          rintro e w36 ⟨v172, rfl, ho0, hb⟩
                          refine ⟨_, rfl, ?_⟩
                          have n0_ := Aside0.mk (Kd.R_lower ho0 (below_size Z9))
                          have n1_ := Aside0.mk (blk_below (g := gb164) (o := .cells #[.int .i64 a0_0, .int .i64 a0_1, .int .i64 a0_2, .int .i64 a0_3, .slice (some ad170) l0_4.length c0_4, .slice (some ad166) l0_5.length c0_5] 55 (0, 0)) Z62 hb)
                          have n2_ := Aside0.mk (blk_below (g := gb167) (o := .cells #[.int .i64 ((rd_T134 l0_5 x3_2).f0), .int .i64 ((rd_T134 l0_5 x3_2).f1.f0), .int .i64 ((rd_T134 l0_5 x3_2).f1.f1.f0), .int .i64 ((rd_T134 l0_5 x3_2).f1.f1.f1), .int .i64 ((rd_T134 l0_5 x3_2).f1.f1.f2), .slice A166_5 ((rd_T134 l0_5 x3_2).f1.f2).length c166_5] 134 (0, 0)) Z63 hb)
                          have n3_ := Aside0.mk (below_step Z9 hb)
                          clear BK164
                          clear BK167
                          clear HB
                          have HO173 := n0_
                          have BK164 := n1_
                          have BK167 := n2_
                          have HB := n3_
                          clear n0_ n1_ n2_ n3_
                          (try clear hb)
                          (try clear hb2)
                          (try clear hk)
                          (try clear hi)
                          (try clear ho0)
                          obtain ⟨Ao37, co37, eo37⟩ := Kd.R_slice HO173.out
                          (first | subst eo37 | (injection eo37 with f1_ f2_ f3_; have f4_ := f1_.symm; have f5_ := f3_.symm; clear f1_ f2_ f3_; subst f4_; subst f5_))
                          refine hK.out _ _ ⟨(blk_cell BK164.out 0).trans rfl, (blk_cell BK164.out 1).trans rfl, (blk_cell BK164.out 2).trans rfl, (blk_cell BK164.out 3).trans rfl, (blk_cell BK164.out 4).trans rfl, (blk_cell BK164.out 5).trans rfl, (blk_cell BK167.out 0).trans rfl, (blk_cell BK167.out 1).trans rfl, (blk_cell BK167.out 2).trans rfl, (blk_cell BK167.out 3).trans rfl, (blk_cell BK167.out 4).trans rfl, (blk_cell BK167.out 5).trans rfl, ((HB.out.cell (World.block_lt_of_cell? w _ hw170_0)).trans hw170_0), ((HB.out.cell (World.block_lt_of_cell? w _ hw170_1)).trans hw170_1), ((HB.out.cell (World.block_lt_of_cell? w _ hw170_2)).trans hw170_2), ((HB.out.cell (World.block_lt_of_cell? w _ hw170_3)).trans hw170_3), ((HB.out.cell (World.block_lt_of_cell? w _ hw170_4)).trans hw170_4), ((HB.out.cell (World.block_lt_of_cell? w _ hw170_5)).trans hw170_5)⟩ (fun hHeld => ?_)
                          clear hK K
                          refine nx_ (N := some 65) ?_
                          refine px_ (i := 10) (N := some 66) (bz 13 2047) (any_of HT_.out (by kernel_rfl)) ?_
                          refine px_ (i := 11) (N := some 67) (bz 13 4095) (any_of HT_.out (by kernel_rfl)) ?_
                          refine px_ (i := 12) (N := some 68) (bz 13 8191) (any_of HT_.out (by kernel_rfl)) ?_
                          refine done_ (done_of HT_.out (by kernel_rfl)) ?_
                          go_upto_if 68 with (fail)
                          have H := HU34.out
                          clear HU34
                          by_cases c38 : (((rd_T136 l0_4 x3_2).f2) != (decide ((t171.length : Int) > 0))) = true
                          · rw [if_pos c38] at H
                            have c38b0 : (((rd_T136 l0_4 x3_2).f2) != (decide ((t171.length : Int) > 0))) = true := c38
                            (try (have c38b1 : decide (((rd_T136 l0_4 x3_2).f2) = (decide ((t171.length : Int) > 0))) = false := by simpa using c38))
                            (try (have c38b2 : (((rd_T136 l0_4 x3_2).f2) == (decide ((t171.length : Int) > 0))) = false := by simpa using c38))
                            (try (have c38b3 : ¬ (((rd_T136 l0_4 x3_2).f2) = (decide ((t171.length : Int) > 0))) := by simpa using c38))
                            clear c38
                            (first | rw [c38b0] | (simp only [i64_w, i32_w]; rw [c38b0]) | (have cz_ := c38b0; simp only [bne, gt_iff_lt, Int.natCast_pos] at cz_; first | rw [cz_] | (simp only [i64_w, i32_w]; rw [cz_])) | skip)
                            obtain rfl := Option.some.inj H
                            go_wp2
                            go_ret
                            exact ⟨by first | rfl | (simp [errW_none, errW_some] <;> rfl) | (simp [*, errW_none, errW_some] <;> rfl), by repeat (first | (with_reducible first | exact HB.out | apply below_alloc | apply pw_below_drewN | apply below_drew1 | refine below_set ?_ GE164.out | refine below_set ?_ GE167.out) | exact HB.out)⟩
                          · rw [if_neg c38] at H
                            have c38b0 : (((rd_T136 l0_4 x3_2).f2) != (decide ((t171.length : Int) > 0))) = false := by simpa using c38
                            (try (have c38b1 : decide (((rd_T136 l0_4 x3_2).f2) = (decide ((t171.length : Int) > 0))) = true := by simpa using c38))
                            (try (have c38b2 : (((rd_T136 l0_4 x3_2).f2) == (decide ((t171.length : Int) > 0))) = true := by simpa using c38))
                            clear c38
                            (first | rw [c38b0] | (simp only [i64_w, i32_w]; rw [c38b0]) | (have cz_ := c38b0; simp only [bne, gt_iff_lt, Int.natCast_pos] at cz_; first | rw [cz_] | (simp only [i64_w, i32_w]; rw [cz_])) | skip)
                            have H' := Aside0.mk H
                            clear H
                            go_wp2
                            go_roundg kj13
                            case measure => have := HJ1.out; have := HK2.out; have := HJ13.out; omega
                            case rel => exact ⟨(wrap64 (x3_2 + 1)), Z98, H', ⟨by have := HJ1.out; have := HK2.out; have := HJ13.out; omega⟩, ⟨by (with_reducible repeat (first | refine blk_drewN ?_ _ | refine blk_drew ?_ | refine blk_alloc ?_ _)); exact BK164.out⟩, ⟨by repeat (first | (with_reducible first | exact HB.out | apply below_alloc | apply pw_below_drewN | apply below_drew1 | refine below_set ?_ GE164.out | refine below_set ?_ GE167.out) | exact HB.out)⟩⟩
                        · rw [if_neg c32] at H
                          exact absurd H (by simp)
                      · rw [if_neg c31] at H
                        exact absurd H (by simp)
              · rw [if_neg c13] at H
                exact absurd H (by simp)
            · rw [if_neg c12] at H
              have c12b0 : decide (x3_2 < (l0_5.length : Int)) = false := decide_eq_false c12
              clear c12
              obtain rfl := Option.some.inj H
              have hcz39_0 : wr.cell? ⟨gb164, 0, none⟩ = some (.int .i64 a0_0) := (blk_cell BK164.out 0).trans rfl
              have hcz39_1 : wr.cell? ⟨gb164, 1, none⟩ = some (.int .i64 a0_1) := (blk_cell BK164.out 1).trans rfl
              have hcz39_2 : wr.cell? ⟨gb164, 2, none⟩ = some (.int .i64 a0_2) := (blk_cell BK164.out 2).trans rfl
              have hcz39_3 : wr.cell? ⟨gb164, 3, none⟩ = some (.int .i64 a0_3) := (blk_cell BK164.out 3).trans rfl
              have hcz39_4 : wr.cell? ⟨gb164, 4, none⟩ = some (.slice A0_4 l0_4.length c0_4) := (blk_cell BK164.out 4).trans rfl
              have hcz39_5 : wr.cell? ⟨gb164, 5, none⟩ = some (.slice A0_5 l0_5.length c0_5) := (blk_cell BK164.out 5).trans rfl
              have hfz39_0 := blk_frozen BK164.out 0
              have hfz39_1 := blk_frozen BK164.out 1
              have hfz39_2 := blk_frozen BK164.out 2
              have hfz39_3 := blk_frozen BK164.out 3
              have hfz39_4 := blk_frozen BK164.out 4
              have hfz39_5 := blk_frozen BK164.out 5
              go_wp2
              go_ret
              exact ⟨by first | rfl | (simp [errW_none, errW_some] <;> rfl) | (simp [*, errW_none, errW_some] <;> rfl), by repeat (first | (with_reducible first | exact HB.out | apply below_alloc | apply pw_below_drewN | apply below_drew1 | refine below_set ?_ GE164.out) | exact HB.out)⟩

/-! ### laws_toVec: function 122 -/
def laws_toVec.f (a0_0 : Int) (a0_1 : Int) (a0_2 : Int) : Option (Int × Int × Int) := some (a0_0, a0_1, a0_2)
set_option maxHeartbeats 8000000 in
set_option maxRecDepth 100000 in
theorem laws_toVec.calls (a0_0 : Int) (a0_1 : Int) (a0_2 : Int) (r1 : Int) (r2 : Int) (r3 : Int) (w : World) (h : laws_toVec.f a0_0 a0_1 a0_2 = some (r1, r2, r3)) :
    Calls Try.prog 122 #[.agg #[.int .i64 a0_0, .int .i64 a0_1, .int .i64 a0_2]] w fun e w' => e = .returned (.agg #[.int .i64 r1, .int .i64 r2, .int .i64 r3]) ∧ Below w.heap.size w w' := by
  have hu81 := Try.underlying81
  have hu49 := Try.underlying49
  have HB := Aside0.mk (Below.refl w.heap.size w)
  have H : (some (a0_0, a0_1, a0_2)) = some (r1, r2, r3) := h
  clear h
  simp only [Option.some.injEq, Prod.mk.injEq] at H
  obtain ⟨rfl, rfl, rfl⟩ := H
  go_enter Try.func122, Try.ntmps122
  go_wp2_with (first | ((with_reducible refine gate_dst (N := 1) rfl ?_); refine box_event ?hg (N := 1) ?hd (cs := #[.int .i64 a0_0, .int .i64 a0_1, .int .i64 a0_2]) (t := 81) ?hr ?_; (case hd => rfl); (case hg => rfl); (case hr => first | (go_simp; done) | (go_simp; rfl)); intro gb174 hg w2 hbox hb; have n0_ := Aside0.mk (below_step Z42 hb); have n1_ := Aside0.mk (hbox); have n2_ := Aside0.mk ((by rw [hg]; exact (below_size Z42) : w.heap.size ≤ gb174)); have n3_ := Aside0.mk ((by rw [hg]; exact (below_size Z42) : w.heap.size ≤ gb174)); clear HB; have HB := n0_; have BK174 := n1_; have GW174 := n2_; have GE174 := n3_; clear n0_ n1_ n2_ n3_; clear hb hbox hg) | ((with_reducible refine gate_dst (N := 2) rfl ?_); refine box_event ?hg (N := 2) ?hd (cs := #[.int .i64 0, .int .i64 0, .int .i64 0]) (t := 49) ?hr ?_; (case hd => rfl); (case hg => rfl); (case hr => first | (go_simp; done) | (go_simp; rfl)); intro gb175 hg w3 hbox hb; have n0_ := Aside0.mk (blk_below (g := gb174) (o := .cells #[.int .i64 a0_0, .int .i64 a0_1, .int .i64 a0_2] 81 (0, 0)) Z64 hb); have n1_ := Aside0.mk (below_step Z30 hb); have n2_ := Aside0.mk (hbox); have n3_ := Aside0.mk ((by rw [hg]; exact (below_size Z30) : w.heap.size ≤ gb175)); have n4_ := Aside0.mk ((by rw [hg]; exact (below_size Z30) : w.heap.size ≤ gb175)); have n5_ := Aside0.mk ((by rw [hg]; exact Nat.ne_of_lt (blk_lt (g := gb174) (o := .cells #[.int .i64 a0_0, .int .i64 a0_1, .int .i64 a0_2] 81 (0, 0)) Z64) : gb174 ≠ gb175)); have n6_ := Aside0.mk ((by rw [hg]; exact Nat.ne_of_gt (blk_lt (g := gb174) (o := .cells #[.int .i64 a0_0, .int .i64 a0_1, .int .i64 a0_2] 81 (0, 0)) Z64) : gb175 ≠ gb174)); clear BK174; clear HB; have BK174 := n0_; have HB := n1_; have BK175 := n2_; have GW175 := n3_; have GE175 := n4_; have NB174_175 := n5_; have NB175_174 := n6_; clear n0_ n1_ n2_ n3_ n4_ n5_ n6_; clear hb hbox hg) | ((with_reducible refine gate_dst (N := 3) rfl ?_); refine box_event ?hg (N := 3) ?hd (cs := #[.int .i64 0, .int .i64 0, .int .i64 0]) (t := 49) ?hr ?_; (case hd => rfl); (case hg => rfl); (case hr => first | (go_simp; done) | (go_simp; rfl)); intro gb176 hg w4 hbox hb; have n0_ := Aside0.mk (blk_below (g := gb174) (o := .cells #[.int .i64 a0_0, .int .i64 a0_1, .int .i64 a0_2] 81 (0, 0)) Z64 hb); have n1_ := Aside0.mk (blk_below (g := gb175) (o := .cells #[.int .i64 0, .int .i64 0, .int .i64 0] 49 (0, 0)) Z65 hb); have n2_ := Aside0.mk (below_step Z10 hb); have n3_ := Aside0.mk (hbox); have n4_ := Aside0.mk ((by rw [hg]; exact (below_size Z10) : w.heap.size ≤ gb176)); have n5_ := Aside0.mk ((by rw [hg]; exact (below_size Z10) : w.heap.size ≤ gb176)); have n6_ := Aside0.mk ((by rw [hg]; exact Nat.ne_of_lt (blk_lt (g := gb174) (o := .cells #[.int .i64 a0_0, .int .i64 a0_1, .int .i64 a0_2] 81 (0, 0)) Z64) : gb174 ≠ gb176)); have n7_ := Aside0.mk ((by rw [hg]; exact Nat.ne_of_gt (blk_lt (g := gb174) (o := .cells #[.int .i64 a0_0, .int .i64 a0_1, .int .i64 a0_2] 81 (0, 0)) Z64) : gb176 ≠ gb174)); have n8_ := Aside0.mk ((by rw [hg]; exact Nat.ne_of_lt (blk_lt (g := gb175) (o := .cells #[.int .i64 0, .int .i64 0, .int .i64 0] 49 (0, 0)) Z65) : gb175 ≠ gb176)); have n9_ := Aside0.mk ((by rw [hg]; exact Nat.ne_of_gt (blk_lt (g := gb175) (o := .cells #[.int .i64 0, .int .i64 0, .int .i64 0] 49 (0, 0)) Z65) : gb176 ≠ gb175)); clear BK174; clear BK175; clear HB; have BK174 := n0_; have BK175 := n1_; have HB := n2_; have BK176 := n3_; have GW176 := n4_; have GE176 := n5_; have NB174_176 := n6_; have NB176_174 := n7_; have NB175_176 := n8_; have NB176_175 := n9_; clear n0_ n1_ n2_ n3_ n4_ n5_ n6_ n7_ n8_ n9_; clear hb hbox hg; (try have hnb5 := NB174_175.out); (try have hnc5 := NB175_174.out); (try have hnb6 := NB174_176.out); (try have hnc6 := NB176_174.out); have hcz7_0 : w4.cell? ⟨gb174, 0, none⟩ = some (.int .i64 a0_0) := (blk_cell BK174.out 0).trans rfl; have hcz7_1 : w4.cell? ⟨gb174, 1, none⟩ = some (.int .i64 a0_1) := (blk_cell BK174.out 1).trans rfl; have hcz7_2 : w4.cell? ⟨gb174, 2, none⟩ = some (.int .i64 a0_2) := (blk_cell BK174.out 2).trans rfl; have hfz7_0 := blk_frozen BK174.out 0; have hfz7_1 := blk_frozen BK174.out 1; have hfz7_2 := blk_frozen BK174.out 2; (try have hnb8 := NB176_175.out); (try have hnc8 := NB175_176.out); have hcz9_0 : w4.cell? ⟨gb176, 0, none⟩ = some (.int .i64 0) := (blk_cell BK176.out 0).trans rfl; have hcz9_1 : w4.cell? ⟨gb176, 1, none⟩ = some (.int .i64 0) := (blk_cell BK176.out 1).trans rfl; have hcz9_2 : w4.cell? ⟨gb176, 2, none⟩ = some (.int .i64 0) := (blk_cell BK176.out 2).trans rfl; have hfz9_0 := blk_frozen BK176.out 0; have hfz9_1 := blk_frozen BK176.out 1; have hfz9_2 := blk_frozen BK176.out 2; have hcz10_0 : w4.cell? ⟨gb175, 0, none⟩ = some (.int .i64 0) := (blk_cell BK175.out 0).trans rfl; have hcz10_1 : w4.cell? ⟨gb175, 1, none⟩ = some (.int .i64 0) := (blk_cell BK175.out 1).trans rfl; have hcz10_2 : w4.cell? ⟨gb175, 2, none⟩ = some (.int .i64 0) := (blk_cell BK175.out 2).trans rfl; have hfz10_0 := blk_frozen BK175.out 0; have hfz10_1 := blk_frozen BK175.out 1; have hfz10_2 := blk_frozen BK175.out 2))
  refine bodyPost_ret (results_cell_row rfl _ _ gb175 49 #[.int .i64 a0_0, .int .i64 a0_1, .int .i64 a0_2] (0, 0) _ rfl (by (with_reducible repeat (first | refine blk_drewN ?_ _ | refine blk_drew ?_ | refine blk_alloc ?_ _)); refine blk_put (cs := #[.int .i64 a0_0, .int .i64 a0_1, .int .i64 0]) ?_ 2 _ rfl; (with_reducible repeat (first | refine blk_drewN ?_ _ | refine blk_drew ?_ | refine blk_alloc ?_ _)); refine blk_put (cs := #[.int .i64 a0_0, .int .i64 0, .int .i64 0]) ?_ 1 _ rfl; (with_reducible repeat (first | refine blk_drewN ?_ _ | refine blk_drew ?_ | refine blk_alloc ?_ _)); refine blk_put (cs := #[.int .i64 0, .int .i64 0, .int .i64 0]) ?_ 0 _ rfl; (with_reducible repeat (first | refine blk_drewN ?_ _ | refine blk_drew ?_ | refine blk_alloc ?_ _)); refine blk_far ?_ NB175_176.out _; (with_reducible repeat (first | refine blk_drewN ?_ _ | refine blk_drew ?_ | refine blk_alloc ?_ _)); refine blk_far ?_ NB175_176.out _; (with_reducible repeat (first | refine blk_drewN ?_ _ | refine blk_drew ?_ | refine blk_alloc ?_ _)); refine blk_far ?_ NB175_176.out _; (with_reducible repeat (first | refine blk_drewN ?_ _ | refine blk_drew ?_ | refine blk_alloc ?_ _)); exact BK175.out) Try.underlying49 rfl (by kernel_rfl)) rfl ?_
  exact ⟨by first | rfl | (simp [errW_none, errW_some] <;> rfl) | (simp [*, errW_none, errW_some] <;> rfl), by repeat (first | (with_reducible first | exact HB.out | apply below_alloc | apply pw_below_drewN | apply below_drew1 | refine below_set ?_ GE174.out | refine below_set ?_ GE175.out | refine below_set ?_ GE176.out) | exact HB.out)⟩

/-! ### laws_toKid: function 171 -/
def laws_toKid.f (a0_0 : Int) (a0_1 : Int) (a0_2 : Bool) (a0_3 : Int) (a0_4 : Int) (a0_5 : Int) : Option (Int × Int × Bool × Int × Int × Int) := (laws_toVec.f a0_3 a0_4 a0_5).bind fun bt180 => (some (a0_0, a0_1, a0_2, bt180.1, bt180.2.1, bt180.2.2))
set_option maxHeartbeats 8000000 in
set_option maxRecDepth 100000 in
theorem laws_toKid.calls (a0_0 : Int) (a0_1 : Int) (a0_2 : Bool) (a0_3 : Int) (a0_4 : Int) (a0_5 : Int) (r1 : Int) (r2 : Int) (r3 : Bool) (r4 : Int) (r5 : Int) (r6 : Int) (w : World) (h : laws_toKid.f a0_0 a0_1 a0_2 a0_3 a0_4 a0_5 = some (r1, r2, r3, r4, r5, r6)) :
    Calls Try.prog 171 #[.agg #[.int .i64 a0_0, .int .i64 a0_1, .bool a0_2, .int .i64 a0_3, .int .i64 a0_4, .int .i64 a0_5]] w fun e w' => e = .returned (.agg #[.int .i64 r1, .int .i64 r2, .bool r3, .int .i64 r4, .int .i64 r5, .int .i64 r6]) ∧ Below w.heap.size w w' := by
  have hu183 := Try.underlying183
  have hu136 := Try.underlying136
  have hu81 := Try.underlying81
  have hu49 := Try.underlying49
  have HB := Aside0.mk (Below.refl w.heap.size w)
  have H : ((laws_toVec.f a0_3 a0_4 a0_5).bind fun bt180 => (some (a0_0, a0_1, a0_2, bt180.1, bt180.2.1, bt180.2.2))) = some (r1, r2, r3, r4, r5, r6) := h
  clear h
  replace H := Option.bind_eq_some_iff.mp H
  obtain ⟨⟨t180, t181, t182⟩, A20, H⟩ := H
  replace H : (some (a0_0, a0_1, a0_2, t180, t181, t182)) = some (r1, r2, r3, r4, r5, r6) := H
  have A2 := Aside0.mk A20
  clear A20
  simp only [Option.some.injEq, Prod.mk.injEq] at H
  obtain ⟨rfl, rfl, rfl, rfl, rfl, rfl⟩ := H
  go_enter Try.func171, Try.ntmps171
  go_wp2_with (first | ((with_reducible refine gate_dst (N := 1) rfl ?_); refine box_event ?hg (N := 1) ?hd (cs := #[.int .i64 a0_0, .int .i64 a0_1, .bool a0_2, .int .i64 a0_3, .int .i64 a0_4, .int .i64 a0_5]) (t := 183) ?hr ?_; (case hd => rfl); (case hg => rfl); (case hr => first | (go_simp; done) | (go_simp; rfl)); intro gb177 hg w3 hbox hb; have n0_ := Aside0.mk (below_step Z42 hb); have n1_ := Aside0.mk (hbox); have n2_ := Aside0.mk ((by rw [hg]; exact (below_size Z42) : w.heap.size ≤ gb177)); have n3_ := Aside0.mk ((by rw [hg]; exact (below_size Z42) : w.heap.size ≤ gb177)); clear HB; have HB := n0_; have BK177 := n1_; have GW177 := n2_; have GE177 := n3_; clear n0_ n1_ n2_ n3_; clear hb hbox hg) | ((with_reducible refine gate_dst (N := 2) rfl ?_); refine box_event ?hg (N := 2) ?hd (cs := #[.int .i64 0, .int .i64 0, .bool false, .int .i64 0, .int .i64 0, .int .i64 0]) (t := 136) ?hr ?_; (case hd => rfl); (case hg => rfl); (case hr => first | (go_simp; done) | (go_simp; rfl)); intro gb178 hg w4 hbox hb; have n0_ := Aside0.mk (blk_below (g := gb177) (o := .cells #[.int .i64 a0_0, .int .i64 a0_1, .bool a0_2, .int .i64 a0_3, .int .i64 a0_4, .int .i64 a0_5] 183 (0, 0)) Z66 hb); have n1_ := Aside0.mk (below_step Z31 hb); have n2_ := Aside0.mk (hbox); have n3_ := Aside0.mk ((by rw [hg]; exact (below_size Z31) : w.heap.size ≤ gb178)); have n4_ := Aside0.mk ((by rw [hg]; exact (below_size Z31) : w.heap.size ≤ gb178)); have n5_ := Aside0.mk ((by rw [hg]; exact Nat.ne_of_lt (blk_lt (g := gb177) (o := .cells #[.int .i64 a0_0, .int .i64 a0_1, .bool a0_2, .int .i64 a0_3, .int .i64 a0_4, .int .i64 a0_5] 183 (0, 0)) Z66) : gb177 ≠ gb178)); have n6_ := Aside0.mk ((by rw [hg]; exact Nat.ne_of_gt (blk_lt (g := gb177) (o := .cells #[.int .i64 a0_0, .int .i64 a0_1, .bool a0_2, .int .i64 a0_3, .int .i64 a0_4, .int .i64 a0_5] 183 (0, 0)) Z66) : gb178 ≠ gb177)); clear BK177; clear HB; have BK177 := n0_; have HB := n1_; have BK178 := n2_; have GW178 := n3_; have GE178 := n4_; have NB177_178 := n5_; have NB178_177 := n6_; clear n0_ n1_ n2_ n3_ n4_ n5_ n6_; clear hb hbox hg) | ((with_reducible refine gate_dst (N := 3) rfl ?_); refine box_event ?hg (N := 3) ?hd (cs := #[.int .i64 0, .int .i64 0, .bool false, .int .i64 0, .int .i64 0, .int .i64 0]) (t := 136) ?hr ?_; (case hd => rfl); (case hg => rfl); (case hr => first | (go_simp; done) | (go_simp; rfl)); intro gb179 hg w5 hbox hb; have n0_ := Aside0.mk (blk_below (g := gb177) (o := .cells #[.int .i64 a0_0, .int .i64 a0_1, .bool a0_2, .int .i64 a0_3, .int .i64 a0_4, .int .i64 a0_5] 183 (0, 0)) Z66 hb); have n1_ := Aside0.mk (blk_below (g := gb178) (o := .cells #[.int .i64 0, .int .i64 0, .bool false, .int .i64 0, .int .i64 0, .int .i64 0] 136 (0, 0)) Z67 hb); have n2_ := Aside0.mk (below_step Z11 hb); have n3_ := Aside0.mk (hbox); have n4_ := Aside0.mk ((by rw [hg]; exact (below_size Z11) : w.heap.size ≤ gb179)); have n5_ := Aside0.mk ((by rw [hg]; exact (below_size Z11) : w.heap.size ≤ gb179)); have n6_ := Aside0.mk ((by rw [hg]; exact Nat.ne_of_lt (blk_lt (g := gb177) (o := .cells #[.int .i64 a0_0, .int .i64 a0_1, .bool a0_2, .int .i64 a0_3, .int .i64 a0_4, .int .i64 a0_5] 183 (0, 0)) Z66) : gb177 ≠ gb179)); have n7_ := Aside0.mk ((by rw [hg]; exact Nat.ne_of_gt (blk_lt (g := gb177) (o := .cells #[.int .i64 a0_0, .int .i64 a0_1, .bool a0_2, .int .i64 a0_3, .int .i64 a0_4, .int .i64 a0_5] 183 (0, 0)) Z66) : gb179 ≠ gb177)); have n8_ := Aside0.mk ((by rw [hg]; exact Nat.ne_of_lt (blk_lt (g := gb178) (o := .cells #[.int .i64 0, .int .i64 0, .bool false, .int .i64 0, .int .i64 0, .int .i64 0] 136 (0, 0)) Z67) : gb178 ≠ gb179)); have n9_ := Aside0.mk ((by rw [hg]; exact Nat.ne_of_gt (blk_lt (g := gb178) (o := .cells #[.int .i64 0, .int .i64 0, .bool false, .int .i64 0, .int .i64 0, .int .i64 0] 136 (0, 0)) Z67) : gb179 ≠ gb178)); clear BK177; clear BK178; clear HB; have BK177 := n0_; have BK178 := n1_; have HB := n2_; have BK179 := n3_; have GW179 := n4_; have GE179 := n5_; have NB177_179 := n6_; have NB179_177 := n7_; have NB178_179 := n8_; have NB179_178 := n9_; clear n0_ n1_ n2_ n3_ n4_ n5_ n6_ n7_ n8_ n9_; clear hb hbox hg; (try have hnb6 := NB177_178.out); (try have hnc6 := NB178_177.out); (try have hnb7 := NB177_179.out); (try have hnc7 := NB179_177.out); have hcz8_0 : w5.cell? ⟨gb177, 0, none⟩ = some (.int .i64 a0_0) := (blk_cell BK177.out 0).trans rfl; have hcz8_1 : w5.cell? ⟨gb177, 1, none⟩ = some (.int .i64 a0_1) := (blk_cell BK177.out 1).trans rfl; have hcz8_2 : w5.cell? ⟨gb177, 2, none⟩ = some (.bool a0_2) := (blk_cell BK177.out 2).trans rfl; have hcz8_3 : w5.cell? ⟨gb177, 3, none⟩ = some (.int .i64 a0_3) := (blk_cell BK177.out 3).trans rfl; have hcz8_4 : w5.cell? ⟨gb177, 4, none⟩ = some (.int .i64 a0_4) := (blk_cell BK177.out 4).trans rfl; have hcz8_5 : w5.cell? ⟨gb177, 5, none⟩ = some (.int .i64 a0_5) := (blk_cell BK177.out 5).trans rfl; have hfz8_0 := blk_frozen BK177.out 0; have hfz8_1 := blk_frozen BK177.out 1; have hfz8_2 := blk_frozen BK177.out 2; have hfz8_3 := blk_frozen BK177.out 3; have hfz8_4 := blk_frozen BK177.out 4; have hfz8_5 := blk_frozen BK177.out 5; (try have hnb9 := NB179_178.out); (try have hnc9 := NB178_179.out); have hcz10_0 : w5.cell? ⟨gb179, 0, none⟩ = some (.int .i64 0) := (blk_cell BK179.out 0).trans rfl; have hcz10_1 : w5.cell? ⟨gb179, 1, none⟩ = some (.int .i64 0) := (blk_cell BK179.out 1).trans rfl; have hcz10_2 : w5.cell? ⟨gb179, 2, none⟩ = some (.bool false) := (blk_cell BK179.out 2).trans rfl; have hcz10_3 : w5.cell? ⟨gb179, 3, none⟩ = some (.int .i64 0) := (blk_cell BK179.out 3).trans rfl; have hcz10_4 : w5.cell? ⟨gb179, 4, none⟩ = some (.int .i64 0) := (blk_cell BK179.out 4).trans rfl; have hcz10_5 : w5.cell? ⟨gb179, 5, none⟩ = some (.int .i64 0) := (blk_cell BK179.out 5).trans rfl; have hfz10_0 := blk_frozen BK179.out 0; have hfz10_1 := blk_frozen BK179.out 1; have hfz10_2 := blk_frozen BK179.out 2; have hfz10_3 := blk_frozen BK179.out 3; have hfz10_4 := blk_frozen BK179.out 4; have hfz10_5 := blk_frozen BK179.out 5) | ((with_reducible refine gate_callee (f := 122) rfl ?_); refine goesL_ (some 15) rfl rfl Try.func122 (by kernel_rfl) rfl #[.agg #[.int .i64 a0_3, .int .i64 a0_4, .int .i64 a0_5]] rfl Z41 ?_; (with_reducible refine (laws_toVec.calls a0_3 a0_4 a0_5 t180 t181 t182 _ A2.out).mono ?_); rintro e w11 ⟨rfl, hb⟩; refine ⟨_, rfl, ?_⟩; have n0_ := Aside0.mk (blk_below (g := gb177) (o := .cells #[.int .i64 a0_0, .int .i64 a0_1, .bool a0_2, .int .i64 a0_3, .int .i64 a0_4, .int .i64 a0_5] 183 (0, 0)) (by (with_reducible repeat (first | refine blk_drewN ?_ _ | refine blk_drew ?_ | refine blk_alloc ?_ _)); refine blk_far ?_ NB177_179.out _; (with_reducible repeat (first | refine blk_drewN ?_ _ | refine blk_drew ?_ | refine blk_alloc ?_ _)); refine blk_far ?_ NB177_179.out _; (with_reducible repeat (first | refine blk_drewN ?_ _ | refine blk_drew ?_ | refine blk_alloc ?_ _)); refine blk_far ?_ NB177_179.out _; (with_reducible repeat (first | refine blk_drewN ?_ _ | refine blk_drew ?_ | refine blk_alloc ?_ _)); exact BK177.out) hb); have n1_ := Aside0.mk (blk_below (g := gb178) (o := .cells #[.int .i64 0, .int .i64 0, .bool false, .int .i64 0, .int .i64 0, .int .i64 0] 136 (0, 0)) (by (with_reducible repeat (first | refine blk_drewN ?_ _ | refine blk_drew ?_ | refine blk_alloc ?_ _)); refine blk_far ?_ NB178_179.out _; (with_reducible repeat (first | refine blk_drewN ?_ _ | refine blk_drew ?_ | refine blk_alloc ?_ _)); refine blk_far ?_ NB178_179.out _; (with_reducible repeat (first | refine blk_drewN ?_ _ | refine blk_drew ?_ | refine blk_alloc ?_ _)); refine blk_far ?_ NB178_179.out _; (with_reducible repeat (first | refine blk_drewN ?_ _ | refine blk_drew ?_ | refine blk_alloc ?_ _)); exact BK178.out) hb); have n2_ := Aside0.mk (blk_below (g := gb179) (o := .cells #[.int .i64 a0_0, .int .i64 a0_1, .bool a0_2, .int .i64 0, .int .i64 0, .int .i64 0] 136 (0, 0)) (by (with_reducible repeat (first | refine blk_drewN ?_ _ | refine blk_drew ?_ | refine blk_alloc ?_ _)); refine blk_put (cs := #[.int .i64 a0_0, .int .i64 a0_1, .bool false, .int .i64 0, .int .i64 0, .int .i64 0]) ?_ 2 _ rfl; (with_reducible repeat (first | refine blk_drewN ?_ _ | refine blk_drew ?_ | refine blk_alloc ?_ _)); refine blk_put (cs := #[.int .i64 a0_0, .int .i64 0, .bool false, .int .i64 0, .int .i64 0, .int .i64 0]) ?_ 1 _ rfl; (with_reducible repeat (first | refine blk_drewN ?_ _ | refine blk_drew ?_ | refine blk_alloc ?_ _)); refine blk_put (cs := #[.int .i64 0, .int .i64 0, .bool false, .int .i64 0, .int .i64 0, .int .i64 0]) ?_ 0 _ rfl; (with_reducible repeat (first | refine blk_drewN ?_ _ | refine blk_drew ?_ | refine blk_alloc ?_ _)); exact BK179.out) hb); have n3_ := Aside0.mk (below_step (by repeat (first | (with_reducible first | exact HB.out | apply below_alloc | apply pw_below_drewN | apply below_drew1 | refine below_set ?_ GE177.out | refine below_set ?_ GE178.out | refine below_set ?_ GE179.out) | exact HB.out)) hb); clear BK177; clear BK178; clear BK179; clear HB; have BK177 := n0_; have BK178 := n1_; have BK179 := n2_; have HB := n3_; clear n0_ n1_ n2_ n3_; (try clear hb); (try clear hb2); (try clear hk); (try clear hi); have hcz12_0 : w11.cell? ⟨gb179, 0, none⟩ = some (.int .i64 a0_0) := (blk_cell BK179.out 0).trans rfl; have hcz12_1 : w11.cell? ⟨gb179, 1, none⟩ = some (.int .i64 a0_1) := (blk_cell BK179.out 1).trans rfl; have hcz12_2 : w11.cell? ⟨gb179, 2, none⟩ = some (.bool a0_2) := (blk_cell BK179.out 2).trans rfl; have hcz12_3 : w11.cell? ⟨gb179, 3, none⟩ = some (.int .i64 0) := (blk_cell BK179.out 3).trans rfl; have hcz12_4 : w11.cell? ⟨gb179, 4, none⟩ = some (.int .i64 0) := (blk_cell BK179.out 4).trans rfl; have hcz12_5 : w11.cell? ⟨gb179, 5, none⟩ = some (.int .i64 0) := (blk_cell BK179.out 5).trans rfl; have hfz12_0 := blk_frozen BK179.out 0; have hfz12_1 := blk_frozen BK179.out 1; have hfz12_2 := blk_frozen BK179.out 2; have hfz12_3 := blk_frozen BK179.out 3; have hfz12_4 := blk_frozen BK179.out 4; have hfz12_5 := blk_frozen BK179.out 5; have hcz13_0 : w11.cell? ⟨gb178, 0, none⟩ = some (.int .i64 0) := (blk_cell BK178.out 0).trans rfl; have hcz13_1 : w11.cell? ⟨gb178, 1, none⟩ = some (.int .i64 0) := (blk_cell BK178.out 1).trans rfl; have hcz13_2 : w11.cell? ⟨gb178, 2, none⟩ = some (.bool false) := (blk_cell BK178.out 2).trans rfl; have hcz13_3 : w11.cell? ⟨gb178, 3, none⟩ = some (.int .i64 0) := (blk_cell BK178.out 3).trans rfl; have hcz13_4 : w11.cell? ⟨gb178, 4, none⟩ = some (.int .i64 0) := (blk_cell BK178.out 4).trans rfl; have hcz13_5 : w11.cell? ⟨gb178, 5, none⟩ = some (.int .i64 0) := (blk_cell BK178.out 5).trans rfl; have hfz13_0 := blk_frozen BK178.out 0; have hfz13_1 := blk_frozen BK178.out 1; have hfz13_2 := blk_frozen BK178.out 2; have hfz13_3 := blk_frozen BK178.out 3; have hfz13_4 := blk_frozen BK178.out 4; have hfz13_5 := blk_frozen BK178.out 5))
  refine bodyPost_ret (results_cell_row rfl _ _ gb178 136 #[.int .i64 a0_0, .int .i64 a0_1, .bool a0_2, .int .i64 t180, .int .i64 t181, .int .i64 t182] (0, 0) _ rfl (by (with_reducible repeat (first | refine blk_drewN ?_ _ | refine blk_drew ?_ | refine blk_alloc ?_ _)); refine blk_put (cs := #[.int .i64 a0_0, .int .i64 a0_1, .bool a0_2, .int .i64 t180, .int .i64 t181, .int .i64 0]) ?_ 5 _ rfl; (with_reducible repeat (first | refine blk_drewN ?_ _ | refine blk_drew ?_ | refine blk_alloc ?_ _)); refine blk_put (cs := #[.int .i64 a0_0, .int .i64 a0_1, .bool a0_2, .int .i64 t180, .int .i64 0, .int .i64 0]) ?_ 4 _ rfl; (with_reducible repeat (first | refine blk_drewN ?_ _ | refine blk_drew ?_ | refine blk_alloc ?_ _)); refine blk_put (cs := #[.int .i64 a0_0, .int .i64 a0_1, .bool a0_2, .int .i64 0, .int .i64 0, .int .i64 0]) ?_ 3 _ rfl; (with_reducible repeat (first | refine blk_drewN ?_ _ | refine blk_drew ?_ | refine blk_alloc ?_ _)); refine blk_put (cs := #[.int .i64 a0_0, .int .i64 a0_1, .bool false, .int .i64 0, .int .i64 0, .int .i64 0]) ?_ 2 _ rfl; (with_reducible repeat (first | refine blk_drewN ?_ _ | refine blk_drew ?_ | refine blk_alloc ?_ _)); refine blk_put (cs := #[.int .i64 a0_0, .int .i64 0, .bool false, .int .i64 0, .int .i64 0, .int .i64 0]) ?_ 1 _ rfl; (with_reducible repeat (first | refine blk_drewN ?_ _ | refine blk_drew ?_ | refine blk_alloc ?_ _)); refine blk_put (cs := #[.int .i64 0, .int .i64 0, .bool false, .int .i64 0, .int .i64 0, .int .i64 0]) ?_ 0 _ rfl; (with_reducible repeat (first | refine blk_drewN ?_ _ | refine blk_drew ?_ | refine blk_alloc ?_ _)); refine blk_far ?_ NB178_179.out _; (with_reducible repeat (first | refine blk_drewN ?_ _ | refine blk_drew ?_ | refine blk_alloc ?_ _)); refine blk_far ?_ NB178_179.out _; (with_reducible repeat (first | refine blk_drewN ?_ _ | refine blk_drew ?_ | refine blk_alloc ?_ _)); refine blk_far ?_ NB178_179.out _; (with_reducible repeat (first | refine blk_drewN ?_ _ | refine blk_drew ?_ | refine blk_alloc ?_ _)); exact BK178.out) Try.underlying136 rfl (by kernel_rfl)) rfl ?_
  exact ⟨by first | rfl | (simp [errW_none, errW_some] <;> rfl) | (simp [*, errW_none, errW_some] <;> rfl), by repeat (first | (with_reducible first | exact HB.out | apply below_alloc | apply pw_below_drewN | apply below_drew1 | refine below_set ?_ GE177.out | refine below_set ?_ GE178.out | refine below_set ?_ GE179.out) | exact HB.out)⟩

end Go.Proofs.Yteecolnemffffaa.PFnExactTreeOk
