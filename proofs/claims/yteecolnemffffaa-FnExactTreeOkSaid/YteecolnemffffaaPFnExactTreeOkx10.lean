-- by a program of this session's, over the kit's words
import Derived.Test.YteecolnemffffaaPZFnExactTreeOk
import Derived.Test.YteecolnemffffaaPFnExactTreeOkx0
import Derived.Test.YteecolnemffffaaPFnExactTreeOkx8
import Derived.Test.YteecolnemffffaaPFnExactTreeOkx9
namespace Go.Proofs.Yteecolnemffffaa.PFnExactTreeOk
open Go.RowKit Go.Proofs.YteecolnemffffaaW.PrintWords Go.Proofs.YteecolnemffffaaW.PrintLast Go.Proofs.YteecolnemffffaaW.PrintMore Go.Proofs.YteecolnemffffaaV Go.Proofs.Yteecolnemffffaa.ZFnExactTreeOk
attribute [local go_sem] max2_int min2_int max_two min_two max_three min_three max_four min_four   -- for this text's walks alone
set_option linter.unusedVariables false
set_option linter.unusedSimpArgs false

/-! ### impl_TreeOk: function 60 -/
mutual
def impl_TreeOk.j0 : Nat → Bool → Int → Int → Int → Int → List (S136) → List (S134) → Option (Bool)
  | 0, _, _, _, _, _, _, _ => none
  | k + 1, x19, x279000, x279001, x279002, x279003, x279004, x279005 => if x19 = true then (some false) else (impl_TreeOk.l0 k x279005 (x279005.length : Int) 0 x279000 x279001 x279002 x279003 x279004 x279005)
def impl_TreeOk.l0 : Nat → List (S134) → Int → Int → Int → Int → Int → Int → List (S136) → List (S134) → Option (Bool)
  | 0, _, _, _, _, _, _, _, _, _ => none
  | k + 1, x21, x22, x23, x279000, x279001, x279002, x279003, x279004, x279005 => if x23 < x22 then (if 0 ≤ x23 then (if x23 < (x21.length : Int) then (if x23 < (x279004.length : Int) then (if ((rd_T134 x21 x23).f0) = ((rd_T136 x279004 x23).f0) then ((impl_FairOk.f k ((rd_T134 x21 x23).f1.f0) ((rd_T134 x21 x23).f1.f1.f0) ((rd_T134 x21 x23).f1.f1.f1) ((rd_T134 x21 x23).f1.f1.f2) ((rd_T134 x21 x23).f1.f2)).bind fun t284 => (if t284 = true then (if ((rd_T134 x21 x23).f1.f0) = x279000 then ((impl_Fair_isBusy.f k ((rd_T134 x21 x23).f1.f0) ((rd_T134 x21 x23).f1.f1.f0) ((rd_T134 x21 x23).f1.f1.f1) ((rd_T134 x21 x23).f1.f1.f2) ((rd_T134 x21 x23).f1.f2)).bind fun t285 => (if (((rd_T136 x279004 x23).f2) != t285) = true then (some false) else (impl_TreeOk.l0 k x21 x22 (wrap64 (x23 + 1)) x279000 x279001 x279002 x279003 x279004 x279005))) else (some false)) else (some false))) else (some false)) else (none)) else (none)) else (none)) else (some true)
end
def impl_TreeOk.f (k : Nat) (a0_0 : Int) (a0_1 : Int) (a0_2 : Int) (a0_3 : Int) (l0_4 : List (S136)) (l0_5 : List (S134)) : Option (Bool) := (impl_FairOk.f k a0_0 a0_1 a0_2 a0_3 l0_4).bind fun t279 => (if t279 = true then (impl_TreeOk.j0 k ((l0_5.length : Int) != (l0_4.length : Int)) a0_0 a0_1 a0_2 a0_3 l0_4 l0_5) else (impl_TreeOk.j0 k true a0_0 a0_1 a0_2 a0_3 l0_4 l0_5))
def impl_TreeOk.T7 : Bool × List (List Nat × List Nat) := (true, [([], []), ([0], [0]), ([], []), ([2], [2]), ([1, 3], [1, 3]), ([4], [4]), ([5], [5]), ([6, 5], [5, 6]), ([7, 5, 5], [5, 7]), ([8, 5], [5, 8]), ([5, 9], [5, 9]), ([10, 8], [10]), ([11], [11]), ([12, 11], [11, 12]), ([13, 11], [11, 13]), ([11], [11]), ([15, 11], [11, 15]), ([16, 11], [11, 16]), ([14, 17, 11], [11, 14, 17]), ([11, 18], [11, 18]), ([19, 11], [19]), ([20], [20]), ([21, 20], [20, 21]), ([20], [20]), ([23, 20], [20, 23]), ([24, 20, 20], [20, 24]), ([22, 25, 20], [20, 22, 25]), ([20, 26], [20, 26])])
def impl_TreeOk.B7 : List Nat := [0, 1, 0, 4, 15, 31, 63, 127, 255, 511, 1023, 2047, 4095, 8191, 16383, 4095, 36863, 102399, 262143, 524287, 1048575, 2097151, 4194303, 2097151, 10485759, 27262975, 67108863, 134217727]
theorem impl_TreeOk.tab7 : rtab .any (opsOf Try.f60 7) = impl_TreeOk.T7 := by kernel_rfl
theorem impl_TreeOk.bits7 : waitsOk impl_TreeOk.T7.2 impl_TreeOk.B7 = true := by kernel_rfl
set_option maxHeartbeats 8000000 in
set_option maxRecDepth 100000 in
theorem impl_TreeOk.calls (k : Nat) (a0_0 : Int) (a0_1 : Int) (a0_2 : Int) (a0_3 : Int) (A0_4 : Option Addr) (c0_4 : Nat) (l0_4 : List (S136)) (A0_5 : Option Addr) (c0_5 : Nat) (l0_5 : List (S134)) (r : Bool) (w : World) (hr0_4 : Kd.C k136 w A0_4 l0_4.length l0_4) (hc0_4 : l0_4.length ≤ c0_4) (hr0_5 : Kd.C k134 w A0_5 l0_5.length l0_5) (hc0_5 : l0_5.length ≤ c0_5) (h : impl_TreeOk.f k a0_0 a0_1 a0_2 a0_3 l0_4 l0_5 = some r) :
    Calls Try.prog 60 #[.agg #[.int .i64 a0_0, .int .i64 a0_1, .int .i64 a0_2, .int .i64 a0_3, .slice A0_4 l0_4.length c0_4, .slice A0_5 l0_5.length c0_5]] w fun e w' => e = .returned (.bool r) ∧ Below w.heap.size w w' := by
  have hu55 := Try.underlying55
  have hu52 := Try.underlying52
  have hu134 := Try.underlying134
  have hu136 := Try.underlying136
  have HR0_4 := Aside0.mk hr0_4
  have HC0_4 := Aside0.mk hc0_4
  clear hr0_4 hc0_4
  have HR0_5 := Aside0.mk hr0_5
  have HC0_5 := Aside0.mk hc0_5
  clear hr0_5 hc0_5
  have HB := Aside0.mk (Below.refl w.heap.size w)
  have H : ((impl_FairOk.f k a0_0 a0_1 a0_2 a0_3 l0_4).bind fun t279 => (if t279 = true then (impl_TreeOk.j0 k ((l0_5.length : Int) != (l0_4.length : Int)) a0_0 a0_1 a0_2 a0_3 l0_4 l0_5) else (impl_TreeOk.j0 k true a0_0 a0_1 a0_2 a0_3 l0_4 l0_5))) = some r := h
  clear h
  have HC2 := Aside0.mk H
  clear H
  go_enter Try.func60, Try.ntmps60
  go_upto_region 1 with (first | ((with_reducible refine gate_dst (N := 1) rfl ?_); (try (refine gate_guard (by rfl) ?_; dsimp only)); refine box_event ?hg (N := 1) ?hd (cs := #[.int .i64 a0_0, .int .i64 a0_1, .int .i64 a0_2, .int .i64 a0_3, .slice A0_4 l0_4.length c0_4, .slice A0_5 l0_5.length c0_5]) (t := 55) ?hr ?_; (case hd => rfl); (case hg => rfl); (case hr => first | (go_simp; done) | (go_simp; rfl)); intro gb278 hg w3 hbox hb; have n0_ := Aside0.mk (below_step Z42 hb); have n1_ := Aside0.mk (hbox); have n2_ := Aside0.mk ((by rw [hg]; exact (below_size Z42) : w.heap.size ≤ gb278)); have n3_ := Aside0.mk ((by rw [hg]; exact (below_size Z42) : w.heap.size ≤ gb278)); clear HB; have HB := n0_; have BK278 := n1_; have GW278 := n2_; have GE278 := n3_; clear n0_ n1_ n2_ n3_; clear hb hbox hg))
  (try simp only [Act.put, List.setIfInBounds_toArray, List.set_cons_zero, List.set_cons_succ])
  go_cut [19] (fun v19 wc => ∃ (kq : Nat) (x19_1 : Bool), v19 = .bool x19_1 ∧ Aside0 (impl_TreeOk.j0 kq x19_1 a0_0 a0_1 a0_2 a0_3 l0_4 l0_5 = some r) ∧ Aside0 (kq ≤ k) ∧ Aside0 (wc.heap[gb278]? = some (.cells #[.int .i64 a0_0, .int .i64 a0_1, .int .i64 a0_2, .int .i64 a0_3, (.slice A0_4 l0_4.length c0_4), (.slice A0_5 l0_5.length c0_5)] 55 (0, 0))) ∧ Aside0 (Below w.heap.size w wc))
  case first =>
    have H := HC2.out
    clear HC2
    replace H := Option.bind_eq_some_iff.mp H
    obtain ⟨t279, A40, H⟩ := H
    replace H : (if t279 = true then (impl_TreeOk.j0 k ((l0_5.length : Int) != (l0_4.length : Int)) a0_0 a0_1 a0_2 a0_3 l0_4 l0_5) else (impl_TreeOk.j0 k true a0_0 a0_1 a0_2 a0_3 l0_4 l0_5)) = some r := H
    have A4 := Aside0.mk A40
    clear A40
    by_cases c5 : t279 = true
    · subst c5
      have H1 : (impl_TreeOk.j0 k ((l0_5.length : Int) != (l0_4.length : Int)) a0_0 a0_1 a0_2 a0_3 l0_4 l0_5) = some r := by rw [if_pos rfl] at H; exact H
      clear H
      have H := H1
      clear H1
      have H' := Aside0.mk H
      clear H
      have hcz6_0 : w3.cell? ⟨gb278, 0, none⟩ = some (.int .i64 a0_0) := (blk_cell BK278.out 0).trans rfl
      have hcz6_1 : w3.cell? ⟨gb278, 1, none⟩ = some (.int .i64 a0_1) := (blk_cell BK278.out 1).trans rfl
      have hcz6_2 : w3.cell? ⟨gb278, 2, none⟩ = some (.int .i64 a0_2) := (blk_cell BK278.out 2).trans rfl
      have hcz6_3 : w3.cell? ⟨gb278, 3, none⟩ = some (.int .i64 a0_3) := (blk_cell BK278.out 3).trans rfl
      have hcz6_4 : w3.cell? ⟨gb278, 4, none⟩ = some (.slice A0_4 l0_4.length c0_4) := (blk_cell BK278.out 4).trans rfl
      have hcz6_5 : w3.cell? ⟨gb278, 5, none⟩ = some (.slice A0_5 l0_5.length c0_5) := (blk_cell BK278.out 5).trans rfl
      have hfz6_0 := blk_frozen BK278.out 0
      have hfz6_1 := blk_frozen BK278.out 1
      have hfz6_2 := blk_frozen BK278.out 2
      have hfz6_3 := blk_frozen BK278.out 3
      have hfz6_4 := blk_frozen BK278.out 4
      have hfz6_5 := blk_frozen BK278.out 5
      go_wp2_with (first | ((with_reducible refine gate_callee (f := 117) rfl ?_); refine goesL_ (some 8) rfl rfl Try.func117 (by kernel_rfl) rfl #[.agg #[.int .i64 a0_0, .int .i64 a0_1, .int .i64 a0_2, .int .i64 a0_3, .slice A0_4 l0_4.length c0_4]] rfl Z41 ?_; (with_reducible refine (impl_FairOk.calls k a0_0 a0_1 a0_2 a0_3 _ _ l0_4 true _ ?side1 ?side2 A4.out).mono ?_); (case side1 => repeat (first | exact (Kd.C_below HR0_4.out HB.out) | (with_reducible refine Kd.C_alloc ?_ _) | (with_reducible refine Kd.C_drewN ?_ _) | (with_reducible refine Kd.C_drew ?_))); (case side2 => exact HC0_4.out); rintro e w7 ⟨rfl, hb⟩; refine ⟨_, rfl, ?_⟩; have n0_ := Aside0.mk (blk_below (g := gb278) (o := .cells #[.int .i64 a0_0, .int .i64 a0_1, .int .i64 a0_2, .int .i64 a0_3, .slice A0_4 l0_4.length c0_4, .slice A0_5 l0_5.length c0_5] 55 (0, 0)) Z81 hb); have n1_ := Aside0.mk (below_step Z39 hb); clear BK278; clear HB; have BK278 := n0_; have HB := n1_; clear n0_ n1_; (try clear hb); (try clear hb2); (try clear hk); (try clear hi); have hcz8_0 : w7.cell? ⟨gb278, 0, none⟩ = some (.int .i64 a0_0) := (blk_cell BK278.out 0).trans rfl; have hcz8_1 : w7.cell? ⟨gb278, 1, none⟩ = some (.int .i64 a0_1) := (blk_cell BK278.out 1).trans rfl; have hcz8_2 : w7.cell? ⟨gb278, 2, none⟩ = some (.int .i64 a0_2) := (blk_cell BK278.out 2).trans rfl; have hcz8_3 : w7.cell? ⟨gb278, 3, none⟩ = some (.int .i64 a0_3) := (blk_cell BK278.out 3).trans rfl; have hcz8_4 : w7.cell? ⟨gb278, 4, none⟩ = some (.slice A0_4 l0_4.length c0_4) := (blk_cell BK278.out 4).trans rfl; have hcz8_5 : w7.cell? ⟨gb278, 5, none⟩ = some (.slice A0_5 l0_5.length c0_5) := (blk_cell BK278.out 5).trans rfl; have hfz8_0 := blk_frozen BK278.out 0; have hfz8_1 := blk_frozen BK278.out 1; have hfz8_2 := blk_frozen BK278.out 2; have hfz8_3 := blk_frozen BK278.out 3; have hfz8_4 := blk_frozen BK278.out 4; have hfz8_5 := blk_frozen BK278.out 5))
      go_meet
      case rel => exact ⟨_, (((l0_5.length : Int) != (l0_4.length : Int))), Z98, H', ⟨by first | omega | exact Nat.le_refl _⟩, ⟨by (with_reducible repeat (first | refine blk_drewN ?_ _ | refine blk_drew ?_ | refine blk_alloc ?_ _)); exact BK278.out⟩, ⟨by repeat (first | (with_reducible first | exact HB.out | apply below_alloc | apply pw_below_drewN | apply below_drew1 | refine below_set ?_ GE278.out) | exact HB.out)⟩⟩
    · replace c5 := Bool.eq_false_iff.mpr c5
      subst c5
      have H1 : (impl_TreeOk.j0 k true a0_0 a0_1 a0_2 a0_3 l0_4 l0_5) = some r := by rw [if_neg (show ¬ (false = true) by decide)] at H; exact H
      clear H
      have H := H1
      clear H1
      have H' := Aside0.mk H
      clear H
      have hcz9_0 : w3.cell? ⟨gb278, 0, none⟩ = some (.int .i64 a0_0) := (blk_cell BK278.out 0).trans rfl
      have hcz9_1 : w3.cell? ⟨gb278, 1, none⟩ = some (.int .i64 a0_1) := (blk_cell BK278.out 1).trans rfl
      have hcz9_2 : w3.cell? ⟨gb278, 2, none⟩ = some (.int .i64 a0_2) := (blk_cell BK278.out 2).trans rfl
      have hcz9_3 : w3.cell? ⟨gb278, 3, none⟩ = some (.int .i64 a0_3) := (blk_cell BK278.out 3).trans rfl
      have hcz9_4 : w3.cell? ⟨gb278, 4, none⟩ = some (.slice A0_4 l0_4.length c0_4) := (blk_cell BK278.out 4).trans rfl
      have hcz9_5 : w3.cell? ⟨gb278, 5, none⟩ = some (.slice A0_5 l0_5.length c0_5) := (blk_cell BK278.out 5).trans rfl
      have hfz9_0 := blk_frozen BK278.out 0
      have hfz9_1 := blk_frozen BK278.out 1
      have hfz9_2 := blk_frozen BK278.out 2
      have hfz9_3 := blk_frozen BK278.out 3
      have hfz9_4 := blk_frozen BK278.out 4
      have hfz9_5 := blk_frozen BK278.out 5
      go_wp2_with (first | ((with_reducible refine gate_callee (f := 117) rfl ?_); refine goesL_ (some 8) rfl rfl Try.func117 (by kernel_rfl) rfl #[.agg #[.int .i64 a0_0, .int .i64 a0_1, .int .i64 a0_2, .int .i64 a0_3, .slice A0_4 l0_4.length c0_4]] rfl Z41 ?_; (with_reducible refine (impl_FairOk.calls k a0_0 a0_1 a0_2 a0_3 _ _ l0_4 false _ ?side1 ?side2 A4.out).mono ?_); (case side1 => repeat (first | exact (Kd.C_below HR0_4.out HB.out) | (with_reducible refine Kd.C_alloc ?_ _) | (with_reducible refine Kd.C_drewN ?_ _) | (with_reducible refine Kd.C_drew ?_))); (case side2 => exact HC0_4.out); rintro e w10 ⟨rfl, hb⟩; refine ⟨_, rfl, ?_⟩; have n0_ := Aside0.mk (blk_below (g := gb278) (o := .cells #[.int .i64 a0_0, .int .i64 a0_1, .int .i64 a0_2, .int .i64 a0_3, .slice A0_4 l0_4.length c0_4, .slice A0_5 l0_5.length c0_5] 55 (0, 0)) Z81 hb); have n1_ := Aside0.mk (below_step Z39 hb); clear BK278; clear HB; have BK278 := n0_; have HB := n1_; clear n0_ n1_; (try clear hb); (try clear hb2); (try clear hk); (try clear hi)))
      go_meet
      case rel => exact ⟨_, (true), Z98, H', ⟨by first | omega | exact Nat.le_refl _⟩, ⟨by (with_reducible repeat (first | refine blk_drewN ?_ _ | refine blk_drew ?_ | refine blk_alloc ?_ _)); exact BK278.out⟩, ⟨by repeat (first | (with_reducible first | exact HB.out | apply below_alloc | apply pw_below_drewN | apply below_drew1 | refine below_set ?_ GE278.out) | exact HB.out)⟩⟩
  case rest =>
    clear HC2
    try clear c1
    try clear p2
    try clear c5
    try clear c6
    try clear hcz6_0
    try clear hcz6_1
    try clear hcz6_2
    try clear hcz6_3
    try clear hcz6_4
    try clear hcz6_5
    try clear hcz8_0
    try clear hcz8_1
    try clear hcz8_2
    try clear hcz8_3
    try clear hcz8_4
    try clear hcz8_5
    try clear hcz9_0
    try clear hcz9_1
    try clear hcz9_2
    try clear hcz9_3
    try clear hcz9_4
    try clear hcz9_5
    try clear hfz6_0
    try clear hfz6_1
    try clear hfz6_2
    try clear hfz6_3
    try clear hfz6_4
    try clear hfz6_5
    try clear hfz8_0
    try clear hfz8_1
    try clear hfz8_2
    try clear hfz8_3
    try clear hfz8_4
    try clear hfz8_5
    try clear hfz9_0
    try clear hfz9_1
    try clear hfz9_2
    try clear hfz9_3
    try clear hfz9_4
    try clear hfz9_5
    obtain ⟨kq, x19_1, rfl, HA, HJ1, BK278, HB⟩ := hcut
    cases kq with
    | zero => exact absurd HA.out (by simp [impl_TreeOk.j0])
    | succ kj1 =>
      have H := HA.out
      clear HA
      simp only [impl_TreeOk.j0] at H
      by_cases c11 : x19_1 = true
      · subst c11
        have H1 : (some false) = some r := by rw [if_pos rfl] at H; exact H
        clear H
        have H := H1
        clear H1
        obtain rfl := Option.some.inj H
        go_wp2
        go_ret
        exact ⟨by first | rfl | (simp [errW_none, errW_some] <;> rfl) | (simp [*, errW_none, errW_some] <;> rfl), by repeat (first | (with_reducible first | exact HB.out | apply below_alloc | apply pw_below_drewN | apply below_drew1 | refine below_set ?_ GE278.out) | exact HB.out)⟩
      · replace c11 := Bool.eq_false_iff.mpr c11
        subst c11
        have H1 : (impl_TreeOk.l0 kj1 l0_5 (l0_5.length : Int) 0 a0_0 a0_1 a0_2 a0_3 l0_4 l0_5) = some r := by rw [if_neg (show ¬ (false = true) by decide)] at H; exact H
        clear H
        have H := H1
        clear H1
        have H' := Aside0.mk H
        clear H
        have hcz12_0 : wc.cell? ⟨gb278, 0, none⟩ = some (.int .i64 a0_0) := (blk_cell BK278.out 0).trans rfl
        have hcz12_1 : wc.cell? ⟨gb278, 1, none⟩ = some (.int .i64 a0_1) := (blk_cell BK278.out 1).trans rfl
        have hcz12_2 : wc.cell? ⟨gb278, 2, none⟩ = some (.int .i64 a0_2) := (blk_cell BK278.out 2).trans rfl
        have hcz12_3 : wc.cell? ⟨gb278, 3, none⟩ = some (.int .i64 a0_3) := (blk_cell BK278.out 3).trans rfl
        have hcz12_4 : wc.cell? ⟨gb278, 4, none⟩ = some (.slice A0_4 l0_4.length c0_4) := (blk_cell BK278.out 4).trans rfl
        have hcz12_5 : wc.cell? ⟨gb278, 5, none⟩ = some (.slice A0_5 l0_5.length c0_5) := (blk_cell BK278.out 5).trans rfl
        have hfz12_0 := blk_frozen BK278.out 0
        have hfz12_1 := blk_frozen BK278.out 1
        have hfz12_2 := blk_frozen BK278.out 2
        have hfz12_3 := blk_frozen BK278.out 3
        have hfz12_4 := blk_frozen BK278.out 4
        have hfz12_5 := blk_frozen BK278.out 5
        go_wp2
        go_loopg [23] kj1 (fun kq v23 w' => ∃ (x23_2 : Int), v23 = .int .i64 x23_2 ∧ Aside0 (impl_TreeOk.l0 kq l0_5 (l0_5.length : Int) x23_2 a0_0 a0_1 a0_2 a0_3 l0_4 l0_5 = some r) ∧ Aside0 (kq ≤ kj1) ∧ Aside0 (w'.heap[gb278]? = some (.cells #[.int .i64 a0_0, .int .i64 a0_1, .int .i64 a0_2, .int .i64 a0_3, (.slice A0_4 l0_4.length c0_4), (.slice A0_5 l0_5.length c0_5)] 55 (0, 0))) ∧ Aside0 (Below w.heap.size w w'))
        case atStart => exact ⟨(0), Z98, H', ⟨Nat.le_refl _⟩, ⟨by (with_reducible repeat (first | refine blk_drewN ?_ _ | refine blk_drew ?_ | refine blk_alloc ?_ _)); exact BK278.out⟩, ⟨by repeat (first | (with_reducible first | exact HB.out | apply below_alloc | apply pw_below_drewN | apply below_drew1 | refine below_set ?_ GE278.out) | exact HB.out)⟩⟩
        case round =>
          clear H'
          try clear c1
          try clear p2
          try clear c5
          try clear c6
          try clear c11
          try clear hcz12_0
          try clear hcz12_1
          try clear hcz12_2
          try clear hcz12_3
          try clear hcz12_4
          try clear hcz12_5
          try clear hcz6_0
          try clear hcz6_1
          try clear hcz6_2
          try clear hcz6_3
          try clear hcz6_4
          try clear hcz6_5
          try clear hcz8_0
          try clear hcz8_1
          try clear hcz8_2
          try clear hcz8_3
          try clear hcz8_4
          try clear hcz8_5
          try clear hcz9_0
          try clear hcz9_1
          try clear hcz9_2
          try clear hcz9_3
          try clear hcz9_4
          try clear hcz9_5
          try clear hfz12_0
          try clear hfz12_1
          try clear hfz12_2
          try clear hfz12_3
          try clear hfz12_4
          try clear hfz12_5
          try clear hfz6_0
          try clear hfz6_1
          try clear hfz6_2
          try clear hfz6_3
          try clear hfz6_4
          try clear hfz6_5
          try clear hfz8_0
          try clear hfz8_1
          try clear hfz8_2
          try clear hfz8_3
          try clear hfz8_4
          try clear hfz8_5
          try clear hfz9_0
          try clear hfz9_1
          try clear hfz9_2
          try clear hfz9_3
          try clear hfz9_4
          try clear hfz9_5
          try clear p2
          obtain ⟨x23_2, rfl, HA, HK2, BK278, HB⟩ := hrel
          cases gk with
          | zero => exact absurd HA.out (by simp [impl_TreeOk.l0])
          | succ k2 =>
            have H := HA.out
            clear HA
            simp only [impl_TreeOk.l0] at H
            by_cases c13 : x23_2 < (l0_5.length : Int)
            · rw [if_pos c13] at H
              have c13b0 : decide (x23_2 < (l0_5.length : Int)) = true := decide_eq_true c13
              clear c13
              by_cases c14 : 0 ≤ x23_2
              · rw [if_pos c14] at H
                have c14b0 : decide (0 ≤ x23_2) = true := decide_eq_true c14
                clear c14
                by_cases c15 : x23_2 < (l0_5.length : Int)
                · rw [if_pos c15] at H
                  have c15b0 : decide (x23_2 < (l0_5.length : Int)) = true := decide_eq_true c15
                  clear c15
                  by_cases c16 : x23_2 < (l0_4.length : Int)
                  · rw [if_pos c16] at H
                    have c16b0 : decide (x23_2 < (l0_4.length : Int)) = true := decide_eq_true c16
                    clear c16
                    by_cases c17 : ((rd_T134 l0_5 x23_2).f0) = ((rd_T136 l0_4 x23_2).f0)
                    · rw [if_pos c17] at H
                      have c17b0 : (((rd_T134 l0_5 x23_2).f0) == ((rd_T136 l0_4 x23_2).f0)) = true := beq_iff_eq.mpr c17
                      have c17b1 : (((rd_T134 l0_5 x23_2).f0) != ((rd_T136 l0_4 x23_2).f0)) = false := bne_eq_false_iff_eq.mpr c17
                      clear c17
                      replace H := Option.bind_eq_some_iff.mp H
                      obtain ⟨t284, A180, H⟩ := H
                      replace H : (if t284 = true then (if ((rd_T134 l0_5 x23_2).f1.f0) = a0_0 then ((impl_Fair_isBusy.f k2 ((rd_T134 l0_5 x23_2).f1.f0) ((rd_T134 l0_5 x23_2).f1.f1.f0) ((rd_T134 l0_5 x23_2).f1.f1.f1) ((rd_T134 l0_5 x23_2).f1.f1.f2) ((rd_T134 l0_5 x23_2).f1.f2)).bind fun t285 => (if (((rd_T136 l0_4 x23_2).f2) != t285) = true then (some false) else (impl_TreeOk.l0 k2 l0_5 (l0_5.length : Int) (wrap64 (x23_2 + 1)) a0_0 a0_1 a0_2 a0_3 l0_4 l0_5))) else (some false)) else (some false)) = some r := H
                      have A18 := Aside0.mk A180
                      clear A180
                      by_cases c19 : t284 = true
                      · subst c19
                        have H1 : (if ((rd_T134 l0_5 x23_2).f1.f0) = a0_0 then ((impl_Fair_isBusy.f k2 ((rd_T134 l0_5 x23_2).f1.f0) ((rd_T134 l0_5 x23_2).f1.f1.f0) ((rd_T134 l0_5 x23_2).f1.f1.f1) ((rd_T134 l0_5 x23_2).f1.f1.f2) ((rd_T134 l0_5 x23_2).f1.f2)).bind fun t285 => (if (((rd_T136 l0_4 x23_2).f2) != t285) = true then (some false) else (impl_TreeOk.l0 k2 l0_5 (l0_5.length : Int) (wrap64 (x23_2 + 1)) a0_0 a0_1 a0_2 a0_3 l0_4 l0_5))) else (some false)) = some r := by rw [if_pos rfl] at H; exact H
                        clear H
                        have H := H1
                        clear H1
                        by_cases c20 : ((rd_T134 l0_5 x23_2).f1.f0) = a0_0
                        · rw [if_pos c20] at H
                          have c20b0 : (((rd_T134 l0_5 x23_2).f1.f0) == a0_0) = true := beq_iff_eq.mpr c20
                          have c20b1 : (((rd_T134 l0_5 x23_2).f1.f0) != a0_0) = false := bne_eq_false_iff_eq.mpr c20
                          clear c20
                          replace H := Option.bind_eq_some_iff.mp H
                          obtain ⟨t285, A210, H⟩ := H
                          replace H : (if (((rd_T136 l0_4 x23_2).f2) != t285) = true then (some false) else (impl_TreeOk.l0 k2 l0_5 (l0_5.length : Int) (wrap64 (x23_2 + 1)) a0_0 a0_1 a0_2 a0_3 l0_4 l0_5)) = some r := H
                          have A21 := Aside0.mk A210
                          clear A210
                          have HU22 := Aside0.mk H
                          clear H
                          have p280 : 0 ≤ (x23_2 : Int) := of_decide_eq_true Z97
                          have q280 : x23_2 < (l0_5.length : Int) := of_decide_eq_true Z97
                          obtain ⟨ad280, A280_5, c280_5, e280, hx280_0, hx280_1, hx280_2, hx280_3, hx280_4, hx280_5, hl280_5, hi280_5⟩ := at_T134 HR0_5.out x23_2 p280 q280
                          cases e280
                          replace hx280_0 := (HB.out.cell (World.block_lt_of_cell? w _ hx280_0)).trans hx280_0
                          replace hx280_1 := (HB.out.cell (World.block_lt_of_cell? w _ hx280_1)).trans hx280_1
                          replace hx280_2 := (HB.out.cell (World.block_lt_of_cell? w _ hx280_2)).trans hx280_2
                          replace hx280_3 := (HB.out.cell (World.block_lt_of_cell? w _ hx280_3)).trans hx280_3
                          replace hx280_4 := (HB.out.cell (World.block_lt_of_cell? w _ hx280_4)).trans hx280_4
                          replace hx280_5 := (HB.out.cell (World.block_lt_of_cell? w _ hx280_5)).trans hx280_5
                          have HR280_5 := Aside0.mk hi280_5
                          have HC280_5 := Aside0.mk hl280_5
                          clear hi280_5 hl280_5
                          replace p280 := eq_true p280
                          replace q280 := eq_true q280
                          try go_wp2_with (first | ((with_reducible refine gate_dst (N := 4) rfl ?_); (try (refine gate_guard (by rfl) ?_; dsimp only)); refine box_event ?hg (N := 4) ?hd (cs := #[.int .i64 0, .int .i64 0, .int .i64 0, .int .i64 0, .int .i64 0, .slice none 0 0]) (t := 134) ?hr ?_; (case hd => rfl); (case hg => rfl); (case hr => first | (go_simp; done) | (go_simp; rfl)); intro gb281 hg w23 hbox hb; have n0_ := Aside0.mk (blk_below (g := gb278) (o := .cells #[.int .i64 a0_0, .int .i64 a0_1, .int .i64 a0_2, .int .i64 a0_3, .slice A0_4 l0_4.length c0_4, .slice (some ad280) l0_5.length c0_5] 55 (0, 0)) Z81 hb); have n1_ := Aside0.mk (below_step Z39 hb); have n2_ := Aside0.mk (hbox); have n3_ := Aside0.mk ((by rw [hg]; exact (below_size Z39) : w.heap.size ≤ gb281)); have n4_ := Aside0.mk ((by rw [hg]; exact (below_size Z39) : w.heap.size ≤ gb281)); have n5_ := Aside0.mk ((by rw [hg]; exact Nat.ne_of_lt (blk_lt (g := gb278) (o := .cells #[.int .i64 a0_0, .int .i64 a0_1, .int .i64 a0_2, .int .i64 a0_3, .slice A0_4 l0_4.length c0_4, .slice (some ad280) l0_5.length c0_5] 55 (0, 0)) Z81) : gb278 ≠ gb281)); have n6_ := Aside0.mk ((by rw [hg]; exact Nat.ne_of_gt (blk_lt (g := gb278) (o := .cells #[.int .i64 a0_0, .int .i64 a0_1, .int .i64 a0_2, .int .i64 a0_3, .slice A0_4 l0_4.length c0_4, .slice (some ad280) l0_5.length c0_5] 55 (0, 0)) Z81) : gb281 ≠ gb278)); clear BK278; clear HB; have BK278 := n0_; have HB := n1_; have BK281 := n2_; have GW281 := n3_; have GE281 := n4_; have NB278_281 := n5_; have NB281_278 := n6_; clear n0_ n1_ n2_ n3_ n4_ n5_ n6_; clear hb hbox hg; (try have hnb24 := NB281_278.out); (try have hnc24 := NB278_281.out); have hcz25_0 : w23.cell? ⟨gb281, 0, none⟩ = some (.int .i64 0) := (blk_cell BK281.out 0).trans rfl; have hcz25_1 : w23.cell? ⟨gb281, 1, none⟩ = some (.int .i64 0) := (blk_cell BK281.out 1).trans rfl; have hcz25_2 : w23.cell? ⟨gb281, 2, none⟩ = some (.int .i64 0) := (blk_cell BK281.out 2).trans rfl; have hcz25_3 : w23.cell? ⟨gb281, 3, none⟩ = some (.int .i64 0) := (blk_cell BK281.out 3).trans rfl; have hcz25_4 : w23.cell? ⟨gb281, 4, none⟩ = some (.int .i64 0) := (blk_cell BK281.out 4).trans rfl; have hcz25_5 : w23.cell? ⟨gb281, 5, none⟩ = some (.slice none 0 0) := (blk_cell BK281.out 5).trans rfl; have hfz25_0 := blk_frozen BK281.out 0; have hfz25_1 := blk_frozen BK281.out 1; have hfz25_2 := blk_frozen BK281.out 2; have hfz25_3 := blk_frozen BK281.out 3; have hfz25_4 := blk_frozen BK281.out 4; have hfz25_5 := blk_frozen BK281.out 5; have hcz26_0 : w23.cell? ⟨gb278, 0, none⟩ = some (.int .i64 a0_0) := (blk_cell BK278.out 0).trans rfl; have hcz26_1 : w23.cell? ⟨gb278, 1, none⟩ = some (.int .i64 a0_1) := (blk_cell BK278.out 1).trans rfl; have hcz26_2 : w23.cell? ⟨gb278, 2, none⟩ = some (.int .i64 a0_2) := (blk_cell BK278.out 2).trans rfl; have hcz26_3 : w23.cell? ⟨gb278, 3, none⟩ = some (.int .i64 a0_3) := (blk_cell BK278.out 3).trans rfl; have hcz26_4 : w23.cell? ⟨gb278, 4, none⟩ = some (.slice A0_4 l0_4.length c0_4) := (blk_cell BK278.out 4).trans rfl; have hcz26_5 : w23.cell? ⟨gb278, 5, none⟩ = some (.slice (some ad280) l0_5.length c0_5) := (blk_cell BK278.out 5).trans rfl; have hfz26_0 := blk_frozen BK278.out 0; have hfz26_1 := blk_frozen BK278.out 1; have hfz26_2 := blk_frozen BK278.out 2; have hfz26_3 := blk_frozen BK278.out 3; have hfz26_4 := blk_frozen BK278.out 4; have hfz26_5 := blk_frozen BK278.out 5; have p282 : 0 ≤ (x23_2 : Int) := of_decide_eq_true Z97; have q282 : x23_2 < (l0_4.length : Int) := of_decide_eq_true Z97; obtain ⟨ad282, e282, hx282_0, hx282_1, hx282_2, hx282_3, hx282_4, hx282_5⟩ := at_T136 HR0_4.out x23_2 p282 q282; cases e282; have hn282_0 : ad282.block ≠ gb281 := Nat.ne_of_lt (Nat.lt_of_lt_of_le Z93 GW281.out); have hn282_1 : ad282.block ≠ gb281 := Nat.ne_of_lt (Nat.lt_of_lt_of_le Z93 GW281.out); have hn282_2 : ad282.block ≠ gb281 := Nat.ne_of_lt (Nat.lt_of_lt_of_le Z93 GW281.out); have hn282_3 : ad282.block ≠ gb281 := Nat.ne_of_lt (Nat.lt_of_lt_of_le Z93 GW281.out); have hn282_4 : ad282.block ≠ gb281 := Nat.ne_of_lt (Nat.lt_of_lt_of_le Z93 GW281.out); have hn282_5 : ad282.block ≠ gb281 := Nat.ne_of_lt (Nat.lt_of_lt_of_le Z93 GW281.out); replace hx282_0 := (HB.out.cell (World.block_lt_of_cell? w _ hx282_0)).trans hx282_0; replace hx282_1 := (HB.out.cell (World.block_lt_of_cell? w _ hx282_1)).trans hx282_1; replace hx282_2 := (HB.out.cell (World.block_lt_of_cell? w _ hx282_2)).trans hx282_2; replace hx282_3 := (HB.out.cell (World.block_lt_of_cell? w _ hx282_3)).trans hx282_3; replace hx282_4 := (HB.out.cell (World.block_lt_of_cell? w _ hx282_4)).trans hx282_4; replace hx282_5 := (HB.out.cell (World.block_lt_of_cell? w _ hx282_5)).trans hx282_5; replace hx282_0 := (cell_far (p := ⟨gb281, 0, none⟩) Z43 (.int .i64 ((rd_T134 l0_5 x23_2).f0))).trans hx282_0; replace hx282_1 := (cell_far (p := ⟨gb281, 0, none⟩) Z43 (.int .i64 ((rd_T134 l0_5 x23_2).f0))).trans hx282_1; replace hx282_2 := (cell_far (p := ⟨gb281, 0, none⟩) Z43 (.int .i64 ((rd_T134 l0_5 x23_2).f0))).trans hx282_2; replace hx282_3 := (cell_far (p := ⟨gb281, 0, none⟩) Z43 (.int .i64 ((rd_T134 l0_5 x23_2).f0))).trans hx282_3; replace hx282_4 := (cell_far (p := ⟨gb281, 0, none⟩) Z43 (.int .i64 ((rd_T134 l0_5 x23_2).f0))).trans hx282_4; replace hx282_5 := (cell_far (p := ⟨gb281, 0, none⟩) Z43 (.int .i64 ((rd_T134 l0_5 x23_2).f0))).trans hx282_5; replace hx282_0 := (cell_far (p := ⟨gb281, 1, none⟩) Z44 (.int .i64 ((rd_T134 l0_5 x23_2).f1.f0))).trans hx282_0; replace hx282_1 := (cell_far (p := ⟨gb281, 1, none⟩) Z44 (.int .i64 ((rd_T134 l0_5 x23_2).f1.f0))).trans hx282_1; replace hx282_2 := (cell_far (p := ⟨gb281, 1, none⟩) Z44 (.int .i64 ((rd_T134 l0_5 x23_2).f1.f0))).trans hx282_2; replace hx282_3 := (cell_far (p := ⟨gb281, 1, none⟩) Z44 (.int .i64 ((rd_T134 l0_5 x23_2).f1.f0))).trans hx282_3; replace hx282_4 := (cell_far (p := ⟨gb281, 1, none⟩) Z44 (.int .i64 ((rd_T134 l0_5 x23_2).f1.f0))).trans hx282_4; replace hx282_5 := (cell_far (p := ⟨gb281, 1, none⟩) Z44 (.int .i64 ((rd_T134 l0_5 x23_2).f1.f0))).trans hx282_5; replace hx282_0 := (cell_far (p := ⟨gb281, 2, none⟩) Z45 (.int .i64 ((rd_T134 l0_5 x23_2).f1.f1.f0))).trans hx282_0; replace hx282_1 := (cell_far (p := ⟨gb281, 2, none⟩) Z45 (.int .i64 ((rd_T134 l0_5 x23_2).f1.f1.f0))).trans hx282_1; replace hx282_2 := (cell_far (p := ⟨gb281, 2, none⟩) Z45 (.int .i64 ((rd_T134 l0_5 x23_2).f1.f1.f0))).trans hx282_2; replace hx282_3 := (cell_far (p := ⟨gb281, 2, none⟩) Z45 (.int .i64 ((rd_T134 l0_5 x23_2).f1.f1.f0))).trans hx282_3; replace hx282_4 := (cell_far (p := ⟨gb281, 2, none⟩) Z45 (.int .i64 ((rd_T134 l0_5 x23_2).f1.f1.f0))).trans hx282_4; replace hx282_5 := (cell_far (p := ⟨gb281, 2, none⟩) Z45 (.int .i64 ((rd_T134 l0_5 x23_2).f1.f1.f0))).trans hx282_5; replace hx282_0 := (cell_far (p := ⟨gb281, 3, none⟩) Z46 (.int .i64 ((rd_T134 l0_5 x23_2).f1.f1.f1))).trans hx282_0; replace hx282_1 := (cell_far (p := ⟨gb281, 3, none⟩) Z46 (.int .i64 ((rd_T134 l0_5 x23_2).f1.f1.f1))).trans hx282_1; replace hx282_2 := (cell_far (p := ⟨gb281, 3, none⟩) Z46 (.int .i64 ((rd_T134 l0_5 x23_2).f1.f1.f1))).trans hx282_2; replace hx282_3 := (cell_far (p := ⟨gb281, 3, none⟩) Z46 (.int .i64 ((rd_T134 l0_5 x23_2).f1.f1.f1))).trans hx282_3; replace hx282_4 := (cell_far (p := ⟨gb281, 3, none⟩) Z46 (.int .i64 ((rd_T134 l0_5 x23_2).f1.f1.f1))).trans hx282_4; replace hx282_5 := (cell_far (p := ⟨gb281, 3, none⟩) Z46 (.int .i64 ((rd_T134 l0_5 x23_2).f1.f1.f1))).trans hx282_5; replace hx282_0 := (cell_far (p := ⟨gb281, 4, none⟩) Z47 (.int .i64 ((rd_T134 l0_5 x23_2).f1.f1.f2))).trans hx282_0; replace hx282_1 := (cell_far (p := ⟨gb281, 4, none⟩) Z47 (.int .i64 ((rd_T134 l0_5 x23_2).f1.f1.f2))).trans hx282_1; replace hx282_2 := (cell_far (p := ⟨gb281, 4, none⟩) Z47 (.int .i64 ((rd_T134 l0_5 x23_2).f1.f1.f2))).trans hx282_2; replace hx282_3 := (cell_far (p := ⟨gb281, 4, none⟩) Z47 (.int .i64 ((rd_T134 l0_5 x23_2).f1.f1.f2))).trans hx282_3; replace hx282_4 := (cell_far (p := ⟨gb281, 4, none⟩) Z47 (.int .i64 ((rd_T134 l0_5 x23_2).f1.f1.f2))).trans hx282_4; replace hx282_5 := (cell_far (p := ⟨gb281, 4, none⟩) Z47 (.int .i64 ((rd_T134 l0_5 x23_2).f1.f1.f2))).trans hx282_5; replace hx282_0 := (cell_far (p := ⟨gb281, 5, none⟩) Z48 (.slice A280_5 ((rd_T134 l0_5 x23_2).f1.f2).length c280_5)).trans hx282_0; replace hx282_1 := (cell_far (p := ⟨gb281, 5, none⟩) Z48 (.slice A280_5 ((rd_T134 l0_5 x23_2).f1.f2).length c280_5)).trans hx282_1; replace hx282_2 := (cell_far (p := ⟨gb281, 5, none⟩) Z48 (.slice A280_5 ((rd_T134 l0_5 x23_2).f1.f2).length c280_5)).trans hx282_2; replace hx282_3 := (cell_far (p := ⟨gb281, 5, none⟩) Z48 (.slice A280_5 ((rd_T134 l0_5 x23_2).f1.f2).length c280_5)).trans hx282_3; replace hx282_4 := (cell_far (p := ⟨gb281, 5, none⟩) Z48 (.slice A280_5 ((rd_T134 l0_5 x23_2).f1.f2).length c280_5)).trans hx282_4; replace hx282_5 := (cell_far (p := ⟨gb281, 5, none⟩) Z48 (.slice A280_5 ((rd_T134 l0_5 x23_2).f1.f2).length c280_5)).trans hx282_5; clear hn282_0; clear hn282_1; clear hn282_2; clear hn282_3; clear hn282_4; clear hn282_5; replace p282 := eq_true p282; replace q282 := eq_true q282) | ((with_reducible refine gate_dst (N := 5) rfl ?_); (try (refine gate_guard (by rfl) ?_; dsimp only)); refine box_event ?hg (N := 5) ?hd (cs := #[.int .i64 0, .int .i64 0, .bool false, .int .i64 0, .int .i64 0, .int .i64 0]) (t := 136) ?hr ?_; (case hd => rfl); (case hg => rfl); (case hr => first | (go_simp; done) | (go_simp; rfl)); intro gb283 hg w27 hbox hb; have n0_ := Aside0.mk (blk_below (g := gb278) (o := .cells #[.int .i64 a0_0, .int .i64 a0_1, .int .i64 a0_2, .int .i64 a0_3, .slice (some ad282) l0_4.length c0_4, .slice (some ad280) l0_5.length c0_5] 55 (0, 0)) Z1 hb); have n1_ := Aside0.mk (blk_below (g := gb281) (o := .cells #[.int .i64 ((rd_T134 l0_5 x23_2).f0), .int .i64 ((rd_T134 l0_5 x23_2).f1.f0), .int .i64 ((rd_T134 l0_5 x23_2).f1.f1.f0), .int .i64 ((rd_T134 l0_5 x23_2).f1.f1.f1), .int .i64 ((rd_T134 l0_5 x23_2).f1.f1.f2), .slice A280_5 ((rd_T134 l0_5 x23_2).f1.f2).length c280_5] 134 (0, 0)) Z0 hb); have n2_ := Aside0.mk (below_step Z18 hb); have n3_ := Aside0.mk (hbox); have n4_ := Aside0.mk ((by rw [hg]; exact (below_size Z18) : w.heap.size ≤ gb283)); have n5_ := Aside0.mk ((by rw [hg]; exact (below_size Z18) : w.heap.size ≤ gb283)); have n6_ := Aside0.mk ((by rw [hg]; exact Nat.ne_of_lt (blk_lt (g := gb278) (o := .cells #[.int .i64 a0_0, .int .i64 a0_1, .int .i64 a0_2, .int .i64 a0_3, .slice (some ad282) l0_4.length c0_4, .slice (some ad280) l0_5.length c0_5] 55 (0, 0)) Z1) : gb278 ≠ gb283)); have n7_ := Aside0.mk ((by rw [hg]; exact Nat.ne_of_gt (blk_lt (g := gb278) (o := .cells #[.int .i64 a0_0, .int .i64 a0_1, .int .i64 a0_2, .int .i64 a0_3, .slice (some ad282) l0_4.length c0_4, .slice (some ad280) l0_5.length c0_5] 55 (0, 0)) Z1) : gb283 ≠ gb278)); have n8_ := Aside0.mk ((by rw [hg]; exact Nat.ne_of_lt (blk_lt (g := gb281) (o := .cells #[.int .i64 ((rd_T134 l0_5 x23_2).f0), .int .i64 ((rd_T134 l0_5 x23_2).f1.f0), .int .i64 ((rd_T134 l0_5 x23_2).f1.f1.f0), .int .i64 ((rd_T134 l0_5 x23_2).f1.f1.f1), .int .i64 ((rd_T134 l0_5 x23_2).f1.f1.f2), .slice A280_5 ((rd_T134 l0_5 x23_2).f1.f2).length c280_5] 134 (0, 0)) Z0) : gb281 ≠ gb283)); have n9_ := Aside0.mk ((by rw [hg]; exact Nat.ne_of_gt (blk_lt (g := gb281) (o := .cells #[.int .i64 ((rd_T134 l0_5 x23_2).f0), .int .i64 ((rd_T134 l0_5 x23_2).f1.f0), .int .i64 ((rd_T134 l0_5 x23_2).f1.f1.f0), .int .i64 ((rd_T134 l0_5 x23_2).f1.f1.f1), .int .i64 ((rd_T134 l0_5 x23_2).f1.f1.f2), .slice A280_5 ((rd_T134 l0_5 x23_2).f1.f2).length c280_5] 134 (0, 0)) Z0) : gb283 ≠ gb281)); clear BK278; clear BK281; clear HB; have BK278 := n0_; have BK281 := n1_; have HB := n2_; have BK283 := n3_; have GW283 := n4_; have GE283 := n5_; have NB278_283 := n6_; have NB283_278 := n7_; have NB281_283 := n8_; have NB283_281 := n9_; clear n0_ n1_ n2_ n3_ n4_ n5_ n6_ n7_ n8_ n9_; clear hb hbox hg; (try have hnb28 := NB283_278.out); (try have hnc28 := NB278_283.out); (try have hnb29 := NB283_281.out); (try have hnc29 := NB281_283.out); have hcz30_0 : w27.cell? ⟨gb283, 0, none⟩ = some (.int .i64 0) := (blk_cell BK283.out 0).trans rfl; have hcz30_1 : w27.cell? ⟨gb283, 1, none⟩ = some (.int .i64 0) := (blk_cell BK283.out 1).trans rfl; have hcz30_2 : w27.cell? ⟨gb283, 2, none⟩ = some (.bool false) := (blk_cell BK283.out 2).trans rfl; have hcz30_3 : w27.cell? ⟨gb283, 3, none⟩ = some (.int .i64 0) := (blk_cell BK283.out 3).trans rfl; have hcz30_4 : w27.cell? ⟨gb283, 4, none⟩ = some (.int .i64 0) := (blk_cell BK283.out 4).trans rfl; have hcz30_5 : w27.cell? ⟨gb283, 5, none⟩ = some (.int .i64 0) := (blk_cell BK283.out 5).trans rfl; have hfz30_0 := blk_frozen BK283.out 0; have hfz30_1 := blk_frozen BK283.out 1; have hfz30_2 := blk_frozen BK283.out 2; have hfz30_3 := blk_frozen BK283.out 3; have hfz30_4 := blk_frozen BK283.out 4; have hfz30_5 := blk_frozen BK283.out 5))
                          have n0_ : Aside0 (((((((w27.setCell ⟨gb283, 0, none⟩ (.int .i64 ((rd_T136 l0_4 x23_2).f0))).setCell ⟨gb283, 1, none⟩ (.int .i64 ((rd_T136 l0_4 x23_2).f1))).setCell ⟨gb283, 2, none⟩ (.bool ((rd_T136 l0_4 x23_2).f2))).setCell ⟨gb283, 3, none⟩ (.int .i64 ((rd_T136 l0_4 x23_2).f3.f0))).setCell ⟨gb283, 4, none⟩ (.int .i64 ((rd_T136 l0_4 x23_2).f3.f1))).setCell ⟨gb283, 5, none⟩ (.int .i64 ((rd_T136 l0_4 x23_2).f3.f2))).heap[gb278]? = some (.cells #[.int .i64 a0_0, .int .i64 a0_1, .int .i64 a0_2, .int .i64 a0_3, .slice (some ad282) l0_4.length c0_4, .slice (some ad280) l0_5.length c0_5] 55 (0, 0))) := ⟨by (with_reducible repeat (first | refine blk_drewN ?_ _ | refine blk_drew ?_ | refine blk_alloc ?_ _)); refine blk_far ?_ NB278_283.out _; (with_reducible repeat (first | refine blk_drewN ?_ _ | refine blk_drew ?_ | refine blk_alloc ?_ _)); refine blk_far ?_ NB278_283.out _; (with_reducible repeat (first | refine blk_drewN ?_ _ | refine blk_drew ?_ | refine blk_alloc ?_ _)); refine blk_far ?_ NB278_283.out _; (with_reducible repeat (first | refine blk_drewN ?_ _ | refine blk_drew ?_ | refine blk_alloc ?_ _)); refine blk_far ?_ NB278_283.out _; (with_reducible repeat (first | refine blk_drewN ?_ _ | refine blk_drew ?_ | refine blk_alloc ?_ _)); refine blk_far ?_ NB278_283.out _; (with_reducible repeat (first | refine blk_drewN ?_ _ | refine blk_drew ?_ | refine blk_alloc ?_ _)); refine blk_far ?_ NB278_283.out _; (with_reducible repeat (first | refine blk_drewN ?_ _ | refine blk_drew ?_ | refine blk_alloc ?_ _)); exact BK278.out⟩
                          have n1_ : Aside0 (((((((w27.setCell ⟨gb283, 0, none⟩ (.int .i64 ((rd_T136 l0_4 x23_2).f0))).setCell ⟨gb283, 1, none⟩ (.int .i64 ((rd_T136 l0_4 x23_2).f1))).setCell ⟨gb283, 2, none⟩ (.bool ((rd_T136 l0_4 x23_2).f2))).setCell ⟨gb283, 3, none⟩ (.int .i64 ((rd_T136 l0_4 x23_2).f3.f0))).setCell ⟨gb283, 4, none⟩ (.int .i64 ((rd_T136 l0_4 x23_2).f3.f1))).setCell ⟨gb283, 5, none⟩ (.int .i64 ((rd_T136 l0_4 x23_2).f3.f2))).heap[gb281]? = some (.cells #[.int .i64 ((rd_T134 l0_5 x23_2).f0), .int .i64 ((rd_T134 l0_5 x23_2).f1.f0), .int .i64 ((rd_T134 l0_5 x23_2).f1.f1.f0), .int .i64 ((rd_T134 l0_5 x23_2).f1.f1.f1), .int .i64 ((rd_T134 l0_5 x23_2).f1.f1.f2), .slice A280_5 ((rd_T134 l0_5 x23_2).f1.f2).length c280_5] 134 (0, 0))) := ⟨by (with_reducible repeat (first | refine blk_drewN ?_ _ | refine blk_drew ?_ | refine blk_alloc ?_ _)); refine blk_far ?_ NB281_283.out _; (with_reducible repeat (first | refine blk_drewN ?_ _ | refine blk_drew ?_ | refine blk_alloc ?_ _)); refine blk_far ?_ NB281_283.out _; (with_reducible repeat (first | refine blk_drewN ?_ _ | refine blk_drew ?_ | refine blk_alloc ?_ _)); refine blk_far ?_ NB281_283.out _; (with_reducible repeat (first | refine blk_drewN ?_ _ | refine blk_drew ?_ | refine blk_alloc ?_ _)); refine blk_far ?_ NB281_283.out _; (with_reducible repeat (first | refine blk_drewN ?_ _ | refine blk_drew ?_ | refine blk_alloc ?_ _)); refine blk_far ?_ NB281_283.out _; (with_reducible repeat (first | refine blk_drewN ?_ _ | refine blk_drew ?_ | refine blk_alloc ?_ _)); refine blk_far ?_ NB281_283.out _; (with_reducible repeat (first | refine blk_drewN ?_ _ | refine blk_drew ?_ | refine blk_alloc ?_ _)); exact BK281.out⟩
                          have n2_ : Aside0 (((((((w27.setCell ⟨gb283, 0, none⟩ (.int .i64 ((rd_T136 l0_4 x23_2).f0))).setCell ⟨gb283, 1, none⟩ (.int .i64 ((rd_T136 l0_4 x23_2).f1))).setCell ⟨gb283, 2, none⟩ (.bool ((rd_T136 l0_4 x23_2).f2))).setCell ⟨gb283, 3, none⟩ (.int .i64 ((rd_T136 l0_4 x23_2).f3.f0))).setCell ⟨gb283, 4, none⟩ (.int .i64 ((rd_T136 l0_4 x23_2).f3.f1))).setCell ⟨gb283, 5, none⟩ (.int .i64 ((rd_T136 l0_4 x23_2).f3.f2))).heap[gb283]? = some (.cells #[.int .i64 ((rd_T136 l0_4 x23_2).f0), .int .i64 ((rd_T136 l0_4 x23_2).f1), .bool ((rd_T136 l0_4 x23_2).f2), .int .i64 ((rd_T136 l0_4 x23_2).f3.f0), .int .i64 ((rd_T136 l0_4 x23_2).f3.f1), .int .i64 ((rd_T136 l0_4 x23_2).f3.f2)] 136 (0, 0))) := ⟨by (with_reducible repeat (first | refine blk_drewN ?_ _ | refine blk_drew ?_ | refine blk_alloc ?_ _)); refine blk_put (cs := #[.int .i64 ((rd_T136 l0_4 x23_2).f0), .int .i64 ((rd_T136 l0_4 x23_2).f1), .bool ((rd_T136 l0_4 x23_2).f2), .int .i64 ((rd_T136 l0_4 x23_2).f3.f0), .int .i64 ((rd_T136 l0_4 x23_2).f3.f1), .int .i64 0]) ?_ 5 _ rfl; (with_reducible repeat (first | refine blk_drewN ?_ _ | refine blk_drew ?_ | refine blk_alloc ?_ _)); refine blk_put (cs := #[.int .i64 ((rd_T136 l0_4 x23_2).f0), .int .i64 ((rd_T136 l0_4 x23_2).f1), .bool ((rd_T136 l0_4 x23_2).f2), .int .i64 ((rd_T136 l0_4 x23_2).f3.f0), .int .i64 0, .int .i64 0]) ?_ 4 _ rfl; (with_reducible repeat (first | refine blk_drewN ?_ _ | refine blk_drew ?_ | refine blk_alloc ?_ _)); refine blk_put (cs := #[.int .i64 ((rd_T136 l0_4 x23_2).f0), .int .i64 ((rd_T136 l0_4 x23_2).f1), .bool ((rd_T136 l0_4 x23_2).f2), .int .i64 0, .int .i64 0, .int .i64 0]) ?_ 3 _ rfl; (with_reducible repeat (first | refine blk_drewN ?_ _ | refine blk_drew ?_ | refine blk_alloc ?_ _)); refine blk_put (cs := #[.int .i64 ((rd_T136 l0_4 x23_2).f0), .int .i64 ((rd_T136 l0_4 x23_2).f1), .bool false, .int .i64 0, .int .i64 0, .int .i64 0]) ?_ 2 _ rfl; (with_reducible repeat (first | refine blk_drewN ?_ _ | refine blk_drew ?_ | refine blk_alloc ?_ _)); refine blk_put (cs := #[.int .i64 ((rd_T136 l0_4 x23_2).f0), .int .i64 0, .bool false, .int .i64 0, .int .i64 0, .int .i64 0]) ?_ 1 _ rfl; (with_reducible repeat (first | refine blk_drewN ?_ _ | refine blk_drew ?_ | refine blk_alloc ?_ _)); refine blk_put (cs := #[.int .i64 0, .int .i64 0, .bool false, .int .i64 0, .int .i64 0, .int .i64 0]) ?_ 0 _ rfl; (with_reducible repeat (first | refine blk_drewN ?_ _ | refine blk_drew ?_ | refine blk_alloc ?_ _)); exact BK283.out⟩
                          have n3_ : Aside0 (Below w.heap.size w ((((((w27.setCell ⟨gb283, 0, none⟩ (.int .i64 ((rd_T136 l0_4 x23_2).f0))).setCell ⟨gb283, 1, none⟩ (.int .i64 ((rd_T136 l0_4 x23_2).f1))).setCell ⟨gb283, 2, none⟩ (.bool ((rd_T136 l0_4 x23_2).f2))).setCell ⟨gb283, 3, none⟩ (.int .i64 ((rd_T136 l0_4 x23_2).f3.f0))).setCell ⟨gb283, 4, none⟩ (.int .i64 ((rd_T136 l0_4 x23_2).f3.f1))).setCell ⟨gb283, 5, none⟩ (.int .i64 ((rd_T136 l0_4 x23_2).f3.f2)))) := ⟨by repeat (first | (with_reducible first | exact HB.out | apply below_alloc | apply pw_below_drewN | apply below_drew1 | refine below_set ?_ GE278.out | refine below_set ?_ GE281.out | refine below_set ?_ GE283.out) | exact HB.out)⟩
                          (try clear BK278)
                          (try clear BK281)
                          (try clear BK283)
                          (try clear HB)
                          generalize ((((((w27.setCell ⟨gb283, 0, none⟩ (.int .i64 ((rd_T136 l0_4 x23_2).f0))).setCell ⟨gb283, 1, none⟩ (.int .i64 ((rd_T136 l0_4 x23_2).f1))).setCell ⟨gb283, 2, none⟩ (.bool ((rd_T136 l0_4 x23_2).f2))).setCell ⟨gb283, 3, none⟩ (.int .i64 ((rd_T136 l0_4 x23_2).f3.f0))).setCell ⟨gb283, 4, none⟩ (.int .i64 ((rd_T136 l0_4 x23_2).f3.f1))).setCell ⟨gb283, 5, none⟩ (.int .i64 ((rd_T136 l0_4 x23_2).f3.f2))) = w31 at n0_ n1_ n2_ n3_ ⊢
                          have BK278 := n0_
                          have BK281 := n1_
                          have BK283 := n2_
                          have HB := n3_
                          clear n0_ n1_ n2_ n3_
                          have n0_ := Aside0.mk (blk_drew BK278.out)
                          have n1_ := Aside0.mk (blk_drew BK281.out)
                          have n2_ := Aside0.mk (blk_drew BK283.out)
                          have n3_ := Aside0.mk (below_drew1 HB.out)
                          clear BK278
                          clear BK281
                          clear BK283
                          clear HB
                          have BK278 := n0_
                          have BK281 := n1_
                          have BK283 := n2_
                          have HB := n3_
                          clear n0_ n1_ n2_ n3_
                          refine start_ (n := 28) (S := fun w' => w'.cell? ⟨gb281, 0, none⟩ = some (.int .i64 ((rd_T134 l0_5 x23_2).f0)) ∧ w'.cell? ⟨gb281, 1, none⟩ = some (.int .i64 ((rd_T134 l0_5 x23_2).f1.f0)) ∧ w'.cell? ⟨gb281, 2, none⟩ = some (.int .i64 ((rd_T134 l0_5 x23_2).f1.f1.f0)) ∧ w'.cell? ⟨gb281, 3, none⟩ = some (.int .i64 ((rd_T134 l0_5 x23_2).f1.f1.f1)) ∧ w'.cell? ⟨gb281, 4, none⟩ = some (.int .i64 ((rd_T134 l0_5 x23_2).f1.f1.f2)) ∧ w'.cell? ⟨gb281, 5, none⟩ = some (.slice A280_5 ((rd_T134 l0_5 x23_2).f1.f2).length c280_5) ∧ w'.cell? ⟨gb283, 0, none⟩ = some (.int .i64 ((rd_T136 l0_4 x23_2).f0)) ∧ w'.cell? ⟨gb283, 1, none⟩ = some (.int .i64 ((rd_T136 l0_4 x23_2).f1)) ∧ w'.cell? ⟨gb283, 2, none⟩ = some (.bool ((rd_T136 l0_4 x23_2).f2)) ∧ w'.cell? ⟨gb283, 3, none⟩ = some (.int .i64 ((rd_T136 l0_4 x23_2).f3.f0)) ∧ w'.cell? ⟨gb283, 4, none⟩ = some (.int .i64 ((rd_T136 l0_4 x23_2).f3.f1)) ∧ w'.cell? ⟨gb283, 5, none⟩ = some (.int .i64 ((rd_T136 l0_4 x23_2).f3.f2)) ∧ w'.cell? ⟨gb278, 0, none⟩ = some (.int .i64 a0_0) ∧ w'.cell? ⟨gb278, 1, none⟩ = some (.int .i64 a0_1) ∧ w'.cell? ⟨gb278, 2, none⟩ = some (.int .i64 a0_2) ∧ w'.cell? ⟨gb278, 3, none⟩ = some (.int .i64 a0_3) ∧ w'.cell? ⟨gb278, 4, none⟩ = some (.slice (some ad282) l0_4.length c0_4) ∧ w'.cell? ⟨gb278, 5, none⟩ = some (.slice (some ad280) l0_5.length c0_5)) (ds := []) (bz 28 0) (by kernel_rfl) rfl (by kernel_rfl) ⟨(blk_cell BK281.out 0).trans rfl, (blk_cell BK281.out 1).trans rfl, (blk_cell BK281.out 2).trans rfl, (blk_cell BK281.out 3).trans rfl, (blk_cell BK281.out 4).trans rfl, (blk_cell BK281.out 5).trans rfl, (blk_cell BK283.out 0).trans rfl, (blk_cell BK283.out 1).trans rfl, (blk_cell BK283.out 2).trans rfl, (blk_cell BK283.out 3).trans rfl, (blk_cell BK283.out 4).trans rfl, (blk_cell BK283.out 5).trans rfl, (blk_cell BK278.out 0).trans rfl, (blk_cell BK278.out 1).trans rfl, (blk_cell BK278.out 2).trans rfl, (blk_cell BK278.out 3).trans rfl, (blk_cell BK278.out 4).trans rfl, (blk_cell BK278.out 5).trans rfl⟩ (fun hHeld => ?_); refine with_tabW impl_TreeOk.tab7 impl_TreeOk.bits7 (fun HT_ HW_ => ?_)
                          generalize w31.drew = w32 at BK278 BK281 BK283 HB hHeld ⊢
                          refine px_ (i := 0) (N := some 34) (bz 28 1) (any_of HT_.out (by kernel_rfl)) ?_
                          refine px_ (i := 2) (N := some 36) (bz 28 5) (any_of HT_.out (by kernel_rfl)) ?_
                          refine tx_ (i := 1) (N := some 35) (bz 28 7) rfl rfl (take_ofW HT_.out HW_.out (by kernel_rfl)) hHeld Z49 ?_
                          refine tx_ (i := 3) (N := some 37) (bz 28 15) rfl rfl (take_ofW HT_.out HW_.out (by kernel_rfl)) hHeld Z49 ?_
                          refine px_ (i := 4) (N := some 38) (bz 28 31) (any_of HT_.out (by kernel_rfl)) ?_
                          refine px_ (i := 5) (N := some 39) (bz 28 63) (any_of HT_.out (by kernel_rfl)) ?_
                          refine px_ (i := 6) (N := some 40) (bz 28 127) (any_of HT_.out (by kernel_rfl)) ?_
                          refine tx_ (i := 7) (N := some 41) (bz 28 255) rfl rfl (take_ofW HT_.out HW_.out (by kernel_rfl)) hHeld Z49 ?_
                          refine one_ (i := 8) (N := some 42) (bz 28 511) rfl rfl (one_of HT_.out (by kernel_rfl)) (by decide) (fun K hK => ?_)
                          refine goes_ Try.func117 (by kernel_rfl) rfl #[.agg #[.int .i64 ((rd_T134 l0_5 x23_2).f1.f0), .int .i64 ((rd_T134 l0_5 x23_2).f1.f1.f0), .int .i64 ((rd_T134 l0_5 x23_2).f1.f1.f1), .int .i64 ((rd_T134 l0_5 x23_2).f1.f1.f2), .slice A280_5 ((rd_T134 l0_5 x23_2).f1.f2).length c280_5]] (by rfl) rfl rfl Z41 ?_
                          with_reducible refine (impl_FairOk.calls k2 ((rd_T134 l0_5 x23_2).f1.f0) ((rd_T134 l0_5 x23_2).f1.f1.f0) ((rd_T134 l0_5 x23_2).f1.f1.f1) ((rd_T134 l0_5 x23_2).f1.f1.f2) _ _ ((rd_T134 l0_5 x23_2).f1.f2) true _ ?side1 ?side2 A18.out).mono ?_
                          (case side1 => repeat (first | exact (Kd.C_below HR280_5.out HB.out) | (with_reducible refine Kd.C_alloc ?_ _) | (with_reducible refine Kd.C_drewN ?_ _) | (with_reducible refine Kd.C_drew ?_)))
                          (case side2 => exact HC280_5.out)
                          rintro e w33 ⟨rfl, hb⟩
                          refine ⟨_, rfl, ?_⟩
                          have n0_ := Aside0.mk (blk_below (g := gb278) (o := .cells #[.int .i64 a0_0, .int .i64 a0_1, .int .i64 a0_2, .int .i64 a0_3, .slice (some ad282) l0_4.length c0_4, .slice (some ad280) l0_5.length c0_5] 55 (0, 0)) Z81 hb)
                          have n1_ := Aside0.mk (blk_below (g := gb281) (o := .cells #[.int .i64 ((rd_T134 l0_5 x23_2).f0), .int .i64 ((rd_T134 l0_5 x23_2).f1.f0), .int .i64 ((rd_T134 l0_5 x23_2).f1.f1.f0), .int .i64 ((rd_T134 l0_5 x23_2).f1.f1.f1), .int .i64 ((rd_T134 l0_5 x23_2).f1.f1.f2), .slice A280_5 ((rd_T134 l0_5 x23_2).f1.f2).length c280_5] 134 (0, 0)) Z82 hb)
                          have n2_ := Aside0.mk (blk_below (g := gb283) (o := .cells #[.int .i64 ((rd_T136 l0_4 x23_2).f0), .int .i64 ((rd_T136 l0_4 x23_2).f1), .bool ((rd_T136 l0_4 x23_2).f2), .int .i64 ((rd_T136 l0_4 x23_2).f3.f0), .int .i64 ((rd_T136 l0_4 x23_2).f3.f1), .int .i64 ((rd_T136 l0_4 x23_2).f3.f2)] 136 (0, 0)) Z83 hb)
                          have n3_ := Aside0.mk (below_step Z5 hb)
                          clear BK278
                          clear BK281
                          clear BK283
                          clear HB
                          have BK278 := n0_
                          have BK281 := n1_
                          have BK283 := n2_
                          have HB := n3_
                          clear n0_ n1_ n2_ n3_
                          (try clear hb)
                          (try clear hb2)
                          (try clear hk)
                          (try clear hi)
                          refine hK.out _ _ ⟨(blk_cell BK281.out 0).trans rfl, (blk_cell BK281.out 1).trans rfl, (blk_cell BK281.out 2).trans rfl, (blk_cell BK281.out 3).trans rfl, (blk_cell BK281.out 4).trans rfl, (blk_cell BK281.out 5).trans rfl, (blk_cell BK283.out 0).trans rfl, (blk_cell BK283.out 1).trans rfl, (blk_cell BK283.out 2).trans rfl, (blk_cell BK283.out 3).trans rfl, (blk_cell BK283.out 4).trans rfl, (blk_cell BK283.out 5).trans rfl, (blk_cell BK278.out 0).trans rfl, (blk_cell BK278.out 1).trans rfl, (blk_cell BK278.out 2).trans rfl, (blk_cell BK278.out 3).trans rfl, (blk_cell BK278.out 4).trans rfl, (blk_cell BK278.out 5).trans rfl⟩ (fun hHeld => ?_)
                          clear hK K
                          refine nx_ (N := some 42) ?_
                          refine px_ (i := 9) (N := some 43) (bz 28 1023) (any_of HT_.out (by kernel_rfl)) ?_
                          refine px_ (i := 10) (N := some 44) (bz 28 2047) (any_of HT_.out (by kernel_rfl)) ?_
                          refine px_ (i := 11) (N := some 45) (bz 28 4095) (any_of HT_.out (by kernel_rfl)) ?_
                          refine px_ (i := 12) (N := some 46) (bz 28 8191) (any_of HT_.out (by kernel_rfl)) ?_
                          refine px_ (i := 13) (N := some 47) (bz 28 16383) (any_of HT_.out (by kernel_rfl)) ?_
                          refine px_ (i := 15) (N := some 49) (bz 28 49151) (any_of HT_.out (by kernel_rfl)) ?_
                          refine px_ (i := 16) (N := some 50) (bz 28 114687) (any_of HT_.out (by kernel_rfl)) ?_
                          refine tx_ (i := 14) (N := some 48) (bz 28 131071) rfl rfl (take_ofW HT_.out HW_.out (by kernel_rfl)) hHeld Z49 ?_
                          refine tx_ (i := 17) (N := some 51) (bz 28 262143) rfl rfl (take_ofW HT_.out HW_.out (by kernel_rfl)) hHeld Z49 ?_
                          refine px_ (i := 18) (N := some 52) (bz 28 524287) (any_of HT_.out (by kernel_rfl)) ?_
                          refine px_ (i := 19) (N := some 53) (bz 28 1048575) (any_of HT_.out (by kernel_rfl)) ?_
                          refine px_ (i := 20) (N := some 54) (bz 28 2097151) (any_of HT_.out (by kernel_rfl)) ?_
                          refine px_ (i := 21) (N := some 55) (bz 28 4194303) (any_of HT_.out (by kernel_rfl)) ?_
                          refine px_ (i := 23) (N := some 57) (bz 28 12582911) (any_of HT_.out (by kernel_rfl)) ?_
                          refine tx_ (i := 22) (N := some 56) (bz 28 16777215) rfl rfl (take_ofW HT_.out HW_.out (by kernel_rfl)) hHeld Z49 ?_
                          refine tx_ (i := 24) (N := some 58) (bz 28 33554431) rfl rfl (take_ofW HT_.out HW_.out (by kernel_rfl)) hHeld Z49 ?_
                          refine one_ (i := 25) (N := some 59) (bz 28 67108863) rfl rfl (one_of HT_.out (by kernel_rfl)) (by decide) (fun K hK => ?_)
                          refine goes_ Try.func118 (by kernel_rfl) rfl #[.agg #[.int .i64 ((rd_T134 l0_5 x23_2).f1.f0), .int .i64 ((rd_T134 l0_5 x23_2).f1.f1.f0), .int .i64 ((rd_T134 l0_5 x23_2).f1.f1.f1), .int .i64 ((rd_T134 l0_5 x23_2).f1.f1.f2), .slice A280_5 ((rd_T134 l0_5 x23_2).f1.f2).length c280_5]] (by rfl) rfl rfl Z41 ?_
                          with_reducible refine (impl_Fair_isBusy.calls k2 ((rd_T134 l0_5 x23_2).f1.f0) ((rd_T134 l0_5 x23_2).f1.f1.f0) ((rd_T134 l0_5 x23_2).f1.f1.f1) ((rd_T134 l0_5 x23_2).f1.f1.f2) _ _ ((rd_T134 l0_5 x23_2).f1.f2) t285 _ ?side1 ?side2 A21.out).mono ?_
                          (case side1 => repeat (first | exact (Kd.C_below HR280_5.out HB.out) | (with_reducible refine Kd.C_alloc ?_ _) | (with_reducible refine Kd.C_drewN ?_ _) | (with_reducible refine Kd.C_drew ?_)))
                          (case side2 => exact HC280_5.out)
                          rintro e w34 ⟨rfl, hb⟩
                          refine ⟨_, rfl, ?_⟩
                          have n0_ := Aside0.mk (blk_below (g := gb278) (o := .cells #[.int .i64 a0_0, .int .i64 a0_1, .int .i64 a0_2, .int .i64 a0_3, .slice (some ad282) l0_4.length c0_4, .slice (some ad280) l0_5.length c0_5] 55 (0, 0)) Z81 hb)
                          have n1_ := Aside0.mk (blk_below (g := gb281) (o := .cells #[.int .i64 ((rd_T134 l0_5 x23_2).f0), .int .i64 ((rd_T134 l0_5 x23_2).f1.f0), .int .i64 ((rd_T134 l0_5 x23_2).f1.f1.f0), .int .i64 ((rd_T134 l0_5 x23_2).f1.f1.f1), .int .i64 ((rd_T134 l0_5 x23_2).f1.f1.f2), .slice A280_5 ((rd_T134 l0_5 x23_2).f1.f2).length c280_5] 134 (0, 0)) Z82 hb)
                          have n2_ := Aside0.mk (blk_below (g := gb283) (o := .cells #[.int .i64 ((rd_T136 l0_4 x23_2).f0), .int .i64 ((rd_T136 l0_4 x23_2).f1), .bool ((rd_T136 l0_4 x23_2).f2), .int .i64 ((rd_T136 l0_4 x23_2).f3.f0), .int .i64 ((rd_T136 l0_4 x23_2).f3.f1), .int .i64 ((rd_T136 l0_4 x23_2).f3.f2)] 136 (0, 0)) Z83 hb)
                          have n3_ := Aside0.mk (below_step Z5 hb)
                          clear BK278
                          clear BK281
                          clear BK283
                          clear HB
                          have BK278 := n0_
                          have BK281 := n1_
                          have BK283 := n2_
                          have HB := n3_
                          clear n0_ n1_ n2_ n3_
                          (try clear hb)
                          (try clear hb2)
                          (try clear hk)
                          (try clear hi)
                          refine hK.out _ _ ⟨(blk_cell BK281.out 0).trans rfl, (blk_cell BK281.out 1).trans rfl, (blk_cell BK281.out 2).trans rfl, (blk_cell BK281.out 3).trans rfl, (blk_cell BK281.out 4).trans rfl, (blk_cell BK281.out 5).trans rfl, (blk_cell BK283.out 0).trans rfl, (blk_cell BK283.out 1).trans rfl, (blk_cell BK283.out 2).trans rfl, (blk_cell BK283.out 3).trans rfl, (blk_cell BK283.out 4).trans rfl, (blk_cell BK283.out 5).trans rfl, (blk_cell BK278.out 0).trans rfl, (blk_cell BK278.out 1).trans rfl, (blk_cell BK278.out 2).trans rfl, (blk_cell BK278.out 3).trans rfl, (blk_cell BK278.out 4).trans rfl, (blk_cell BK278.out 5).trans rfl⟩ (fun hHeld => ?_)
                          clear hK K
                          refine nx_ (N := some 59) ?_
                          refine px_ (i := 26) (N := some 60) (bz 28 134217727) (any_of HT_.out (by kernel_rfl)) ?_
                          refine px_ (i := 27) (N := some 61) (bz 28 268435455) (any_of HT_.out (by kernel_rfl)) ?_
                          refine done_ (done_of HT_.out (by kernel_rfl)) ?_
                          go_upto_if 61 with (fail)
                          have H := HU22.out
                          clear HU22
                          by_cases c35 : (((rd_T136 l0_4 x23_2).f2) != t285) = true
                          · rw [if_pos c35] at H
                            have c35b0 : (((rd_T136 l0_4 x23_2).f2) != t285) = true := c35
                            (try (have c35b1 : decide (((rd_T136 l0_4 x23_2).f2) = t285) = false := by simpa using c35))
                            (try (have c35b2 : (((rd_T136 l0_4 x23_2).f2) == t285) = false := by simpa using c35))
                            (try (have c35b3 : ¬ (((rd_T136 l0_4 x23_2).f2) = t285) := by simpa using c35))
                            clear c35
                            (first | rw [c35b0] | (simp only [i64_w, i32_w]; rw [c35b0]) | (have cz_ := c35b0; simp only [bne, gt_iff_lt, Int.natCast_pos] at cz_; first | rw [cz_] | (simp only [i64_w, i32_w]; rw [cz_])) | skip)
                            obtain rfl := Option.some.inj H
                            go_wp2
                            go_ret
                            exact ⟨by first | rfl | (simp [errW_none, errW_some] <;> rfl) | (simp [*, errW_none, errW_some] <;> rfl), by repeat (first | (with_reducible first | exact HB.out | apply below_alloc | apply pw_below_drewN | apply below_drew1 | refine below_set ?_ GE278.out | refine below_set ?_ GE281.out | refine below_set ?_ GE283.out) | exact HB.out)⟩
                          · rw [if_neg c35] at H
                            have c35b0 : (((rd_T136 l0_4 x23_2).f2) != t285) = false := by simpa using c35
                            (try (have c35b1 : decide (((rd_T136 l0_4 x23_2).f2) = t285) = true := by simpa using c35))
                            (try (have c35b2 : (((rd_T136 l0_4 x23_2).f2) == t285) = true := by simpa using c35))
                            clear c35
                            (first | rw [c35b0] | (simp only [i64_w, i32_w]; rw [c35b0]) | (have cz_ := c35b0; simp only [bne, gt_iff_lt, Int.natCast_pos] at cz_; first | rw [cz_] | (simp only [i64_w, i32_w]; rw [cz_])) | skip)
                            have H' := Aside0.mk H
                            clear H
                            go_wp2
                            go_roundg k2
                            case measure => have := HJ1.out; have := HK2.out; omega
                            case rel => exact ⟨(wrap64 (x23_2 + 1)), Z98, H', ⟨by have := HJ1.out; have := HK2.out; omega⟩, ⟨by (with_reducible repeat (first | refine blk_drewN ?_ _ | refine blk_drew ?_ | refine blk_alloc ?_ _)); exact BK278.out⟩, ⟨by repeat (first | (with_reducible first | exact HB.out | apply below_alloc | apply pw_below_drewN | apply below_drew1 | refine below_set ?_ GE278.out | refine below_set ?_ GE281.out | refine below_set ?_ GE283.out) | exact HB.out)⟩⟩
                        · rw [if_neg c20] at H
                          have c20b0 : (((rd_T134 l0_5 x23_2).f1.f0) == a0_0) = false := beq_eq_false_iff_ne.mpr c20
                          have c20b1 : (((rd_T134 l0_5 x23_2).f1.f0) != a0_0) = true := bne_iff_ne.mpr c20
                          obtain rfl := Option.some.inj H
                          have p280 : 0 ≤ (x23_2 : Int) := of_decide_eq_true Z97
                          have q280 : x23_2 < (l0_5.length : Int) := of_decide_eq_true Z97
                          obtain ⟨ad280, A280_5, c280_5, e280, hx280_0, hx280_1, hx280_2, hx280_3, hx280_4, hx280_5, hl280_5, hi280_5⟩ := at_T134 HR0_5.out x23_2 p280 q280
                          cases e280
                          replace hx280_0 := (HB.out.cell (World.block_lt_of_cell? w _ hx280_0)).trans hx280_0
                          replace hx280_1 := (HB.out.cell (World.block_lt_of_cell? w _ hx280_1)).trans hx280_1
                          replace hx280_2 := (HB.out.cell (World.block_lt_of_cell? w _ hx280_2)).trans hx280_2
                          replace hx280_3 := (HB.out.cell (World.block_lt_of_cell? w _ hx280_3)).trans hx280_3
                          replace hx280_4 := (HB.out.cell (World.block_lt_of_cell? w _ hx280_4)).trans hx280_4
                          replace hx280_5 := (HB.out.cell (World.block_lt_of_cell? w _ hx280_5)).trans hx280_5
                          have HR280_5 := Aside0.mk hi280_5
                          have HC280_5 := Aside0.mk hl280_5
                          clear hi280_5 hl280_5
                          replace p280 := eq_true p280
                          replace q280 := eq_true q280
                          try go_wp2_with (first | ((with_reducible refine gate_dst (N := 4) rfl ?_); (try (refine gate_guard (by rfl) ?_; dsimp only)); refine box_event ?hg (N := 4) ?hd (cs := #[.int .i64 0, .int .i64 0, .int .i64 0, .int .i64 0, .int .i64 0, .slice none 0 0]) (t := 134) ?hr ?_; (case hd => rfl); (case hg => rfl); (case hr => first | (go_simp; done) | (go_simp; rfl)); intro gb281 hg w36 hbox hb; have n0_ := Aside0.mk (blk_below (g := gb278) (o := .cells #[.int .i64 a0_0, .int .i64 a0_1, .int .i64 a0_2, .int .i64 a0_3, .slice A0_4 l0_4.length c0_4, .slice (some ad280) l0_5.length c0_5] 55 (0, 0)) Z81 hb); have n1_ := Aside0.mk (below_step Z39 hb); have n2_ := Aside0.mk (hbox); have n3_ := Aside0.mk ((by rw [hg]; exact (below_size Z39) : w.heap.size ≤ gb281)); have n4_ := Aside0.mk ((by rw [hg]; exact (below_size Z39) : w.heap.size ≤ gb281)); have n5_ := Aside0.mk ((by rw [hg]; exact Nat.ne_of_lt (blk_lt (g := gb278) (o := .cells #[.int .i64 a0_0, .int .i64 a0_1, .int .i64 a0_2, .int .i64 a0_3, .slice A0_4 l0_4.length c0_4, .slice (some ad280) l0_5.length c0_5] 55 (0, 0)) Z81) : gb278 ≠ gb281)); have n6_ := Aside0.mk ((by rw [hg]; exact Nat.ne_of_gt (blk_lt (g := gb278) (o := .cells #[.int .i64 a0_0, .int .i64 a0_1, .int .i64 a0_2, .int .i64 a0_3, .slice A0_4 l0_4.length c0_4, .slice (some ad280) l0_5.length c0_5] 55 (0, 0)) Z81) : gb281 ≠ gb278)); clear BK278; clear HB; have BK278 := n0_; have HB := n1_; have BK281 := n2_; have GW281 := n3_; have GE281 := n4_; have NB278_281 := n5_; have NB281_278 := n6_; clear n0_ n1_ n2_ n3_ n4_ n5_ n6_; clear hb hbox hg; (try have hnb37 := NB281_278.out); (try have hnc37 := NB278_281.out); have hcz38_0 : w36.cell? ⟨gb281, 0, none⟩ = some (.int .i64 0) := (blk_cell BK281.out 0).trans rfl; have hcz38_1 : w36.cell? ⟨gb281, 1, none⟩ = some (.int .i64 0) := (blk_cell BK281.out 1).trans rfl; have hcz38_2 : w36.cell? ⟨gb281, 2, none⟩ = some (.int .i64 0) := (blk_cell BK281.out 2).trans rfl; have hcz38_3 : w36.cell? ⟨gb281, 3, none⟩ = some (.int .i64 0) := (blk_cell BK281.out 3).trans rfl; have hcz38_4 : w36.cell? ⟨gb281, 4, none⟩ = some (.int .i64 0) := (blk_cell BK281.out 4).trans rfl; have hcz38_5 : w36.cell? ⟨gb281, 5, none⟩ = some (.slice none 0 0) := (blk_cell BK281.out 5).trans rfl; have hfz38_0 := blk_frozen BK281.out 0; have hfz38_1 := blk_frozen BK281.out 1; have hfz38_2 := blk_frozen BK281.out 2; have hfz38_3 := blk_frozen BK281.out 3; have hfz38_4 := blk_frozen BK281.out 4; have hfz38_5 := blk_frozen BK281.out 5; have hcz39_0 : w36.cell? ⟨gb278, 0, none⟩ = some (.int .i64 a0_0) := (blk_cell BK278.out 0).trans rfl; have hcz39_1 : w36.cell? ⟨gb278, 1, none⟩ = some (.int .i64 a0_1) := (blk_cell BK278.out 1).trans rfl; have hcz39_2 : w36.cell? ⟨gb278, 2, none⟩ = some (.int .i64 a0_2) := (blk_cell BK278.out 2).trans rfl; have hcz39_3 : w36.cell? ⟨gb278, 3, none⟩ = some (.int .i64 a0_3) := (blk_cell BK278.out 3).trans rfl; have hcz39_4 : w36.cell? ⟨gb278, 4, none⟩ = some (.slice A0_4 l0_4.length c0_4) := (blk_cell BK278.out 4).trans rfl; have hcz39_5 : w36.cell? ⟨gb278, 5, none⟩ = some (.slice (some ad280) l0_5.length c0_5) := (blk_cell BK278.out 5).trans rfl; have hfz39_0 := blk_frozen BK278.out 0; have hfz39_1 := blk_frozen BK278.out 1; have hfz39_2 := blk_frozen BK278.out 2; have hfz39_3 := blk_frozen BK278.out 3; have hfz39_4 := blk_frozen BK278.out 4; have hfz39_5 := blk_frozen BK278.out 5; have p282 : 0 ≤ (x23_2 : Int) := of_decide_eq_true Z97; have q282 : x23_2 < (l0_4.length : Int) := of_decide_eq_true Z97; obtain ⟨ad282, e282, hx282_0, hx282_1, hx282_2, hx282_3, hx282_4, hx282_5⟩ := at_T136 HR0_4.out x23_2 p282 q282; cases e282; have hn282_0 : ad282.block ≠ gb281 := Nat.ne_of_lt (Nat.lt_of_lt_of_le Z93 GW281.out); have hn282_1 : ad282.block ≠ gb281 := Nat.ne_of_lt (Nat.lt_of_lt_of_le Z93 GW281.out); have hn282_2 : ad282.block ≠ gb281 := Nat.ne_of_lt (Nat.lt_of_lt_of_le Z93 GW281.out); have hn282_3 : ad282.block ≠ gb281 := Nat.ne_of_lt (Nat.lt_of_lt_of_le Z93 GW281.out); have hn282_4 : ad282.block ≠ gb281 := Nat.ne_of_lt (Nat.lt_of_lt_of_le Z93 GW281.out); have hn282_5 : ad282.block ≠ gb281 := Nat.ne_of_lt (Nat.lt_of_lt_of_le Z93 GW281.out); replace hx282_0 := (HB.out.cell (World.block_lt_of_cell? w _ hx282_0)).trans hx282_0; replace hx282_1 := (HB.out.cell (World.block_lt_of_cell? w _ hx282_1)).trans hx282_1; replace hx282_2 := (HB.out.cell (World.block_lt_of_cell? w _ hx282_2)).trans hx282_2; replace hx282_3 := (HB.out.cell (World.block_lt_of_cell? w _ hx282_3)).trans hx282_3; replace hx282_4 := (HB.out.cell (World.block_lt_of_cell? w _ hx282_4)).trans hx282_4; replace hx282_5 := (HB.out.cell (World.block_lt_of_cell? w _ hx282_5)).trans hx282_5; replace hx282_0 := (cell_far (p := ⟨gb281, 0, none⟩) Z43 (.int .i64 ((rd_T134 l0_5 x23_2).f0))).trans hx282_0; replace hx282_1 := (cell_far (p := ⟨gb281, 0, none⟩) Z43 (.int .i64 ((rd_T134 l0_5 x23_2).f0))).trans hx282_1; replace hx282_2 := (cell_far (p := ⟨gb281, 0, none⟩) Z43 (.int .i64 ((rd_T134 l0_5 x23_2).f0))).trans hx282_2; replace hx282_3 := (cell_far (p := ⟨gb281, 0, none⟩) Z43 (.int .i64 ((rd_T134 l0_5 x23_2).f0))).trans hx282_3; replace hx282_4 := (cell_far (p := ⟨gb281, 0, none⟩) Z43 (.int .i64 ((rd_T134 l0_5 x23_2).f0))).trans hx282_4; replace hx282_5 := (cell_far (p := ⟨gb281, 0, none⟩) Z43 (.int .i64 ((rd_T134 l0_5 x23_2).f0))).trans hx282_5; replace hx282_0 := (cell_far (p := ⟨gb281, 1, none⟩) Z44 (.int .i64 ((rd_T134 l0_5 x23_2).f1.f0))).trans hx282_0; replace hx282_1 := (cell_far (p := ⟨gb281, 1, none⟩) Z44 (.int .i64 ((rd_T134 l0_5 x23_2).f1.f0))).trans hx282_1; replace hx282_2 := (cell_far (p := ⟨gb281, 1, none⟩) Z44 (.int .i64 ((rd_T134 l0_5 x23_2).f1.f0))).trans hx282_2; replace hx282_3 := (cell_far (p := ⟨gb281, 1, none⟩) Z44 (.int .i64 ((rd_T134 l0_5 x23_2).f1.f0))).trans hx282_3; replace hx282_4 := (cell_far (p := ⟨gb281, 1, none⟩) Z44 (.int .i64 ((rd_T134 l0_5 x23_2).f1.f0))).trans hx282_4; replace hx282_5 := (cell_far (p := ⟨gb281, 1, none⟩) Z44 (.int .i64 ((rd_T134 l0_5 x23_2).f1.f0))).trans hx282_5; replace hx282_0 := (cell_far (p := ⟨gb281, 2, none⟩) Z45 (.int .i64 ((rd_T134 l0_5 x23_2).f1.f1.f0))).trans hx282_0; replace hx282_1 := (cell_far (p := ⟨gb281, 2, none⟩) Z45 (.int .i64 ((rd_T134 l0_5 x23_2).f1.f1.f0))).trans hx282_1; replace hx282_2 := (cell_far (p := ⟨gb281, 2, none⟩) Z45 (.int .i64 ((rd_T134 l0_5 x23_2).f1.f1.f0))).trans hx282_2; replace hx282_3 := (cell_far (p := ⟨gb281, 2, none⟩) Z45 (.int .i64 ((rd_T134 l0_5 x23_2).f1.f1.f0))).trans hx282_3; replace hx282_4 := (cell_far (p := ⟨gb281, 2, none⟩) Z45 (.int .i64 ((rd_T134 l0_5 x23_2).f1.f1.f0))).trans hx282_4; replace hx282_5 := (cell_far (p := ⟨gb281, 2, none⟩) Z45 (.int .i64 ((rd_T134 l0_5 x23_2).f1.f1.f0))).trans hx282_5; replace hx282_0 := (cell_far (p := ⟨gb281, 3, none⟩) Z46 (.int .i64 ((rd_T134 l0_5 x23_2).f1.f1.f1))).trans hx282_0; replace hx282_1 := (cell_far (p := ⟨gb281, 3, none⟩) Z46 (.int .i64 ((rd_T134 l0_5 x23_2).f1.f1.f1))).trans hx282_1; replace hx282_2 := (cell_far (p := ⟨gb281, 3, none⟩) Z46 (.int .i64 ((rd_T134 l0_5 x23_2).f1.f1.f1))).trans hx282_2; replace hx282_3 := (cell_far (p := ⟨gb281, 3, none⟩) Z46 (.int .i64 ((rd_T134 l0_5 x23_2).f1.f1.f1))).trans hx282_3; replace hx282_4 := (cell_far (p := ⟨gb281, 3, none⟩) Z46 (.int .i64 ((rd_T134 l0_5 x23_2).f1.f1.f1))).trans hx282_4; replace hx282_5 := (cell_far (p := ⟨gb281, 3, none⟩) Z46 (.int .i64 ((rd_T134 l0_5 x23_2).f1.f1.f1))).trans hx282_5; replace hx282_0 := (cell_far (p := ⟨gb281, 4, none⟩) Z47 (.int .i64 ((rd_T134 l0_5 x23_2).f1.f1.f2))).trans hx282_0; replace hx282_1 := (cell_far (p := ⟨gb281, 4, none⟩) Z47 (.int .i64 ((rd_T134 l0_5 x23_2).f1.f1.f2))).trans hx282_1; replace hx282_2 := (cell_far (p := ⟨gb281, 4, none⟩) Z47 (.int .i64 ((rd_T134 l0_5 x23_2).f1.f1.f2))).trans hx282_2; replace hx282_3 := (cell_far (p := ⟨gb281, 4, none⟩) Z47 (.int .i64 ((rd_T134 l0_5 x23_2).f1.f1.f2))).trans hx282_3; replace hx282_4 := (cell_far (p := ⟨gb281, 4, none⟩) Z47 (.int .i64 ((rd_T134 l0_5 x23_2).f1.f1.f2))).trans hx282_4; replace hx282_5 := (cell_far (p := ⟨gb281, 4, none⟩) Z47 (.int .i64 ((rd_T134 l0_5 x23_2).f1.f1.f2))).trans hx282_5; replace hx282_0 := (cell_far (p := ⟨gb281, 5, none⟩) Z48 (.slice A280_5 ((rd_T134 l0_5 x23_2).f1.f2).length c280_5)).trans hx282_0; replace hx282_1 := (cell_far (p := ⟨gb281, 5, none⟩) Z48 (.slice A280_5 ((rd_T134 l0_5 x23_2).f1.f2).length c280_5)).trans hx282_1; replace hx282_2 := (cell_far (p := ⟨gb281, 5, none⟩) Z48 (.slice A280_5 ((rd_T134 l0_5 x23_2).f1.f2).length c280_5)).trans hx282_2; replace hx282_3 := (cell_far (p := ⟨gb281, 5, none⟩) Z48 (.slice A280_5 ((rd_T134 l0_5 x23_2).f1.f2).length c280_5)).trans hx282_3; replace hx282_4 := (cell_far (p := ⟨gb281, 5, none⟩) Z48 (.slice A280_5 ((rd_T134 l0_5 x23_2).f1.f2).length c280_5)).trans hx282_4; replace hx282_5 := (cell_far (p := ⟨gb281, 5, none⟩) Z48 (.slice A280_5 ((rd_T134 l0_5 x23_2).f1.f2).length c280_5)).trans hx282_5; clear hn282_0; clear hn282_1; clear hn282_2; clear hn282_3; clear hn282_4; clear hn282_5; replace p282 := eq_true p282; replace q282 := eq_true q282) | ((with_reducible refine gate_dst (N := 5) rfl ?_); (try (refine gate_guard (by rfl) ?_; dsimp only)); refine box_event ?hg (N := 5) ?hd (cs := #[.int .i64 0, .int .i64 0, .bool false, .int .i64 0, .int .i64 0, .int .i64 0]) (t := 136) ?hr ?_; (case hd => rfl); (case hg => rfl); (case hr => first | (go_simp; done) | (go_simp; rfl)); intro gb283 hg w40 hbox hb; have n0_ := Aside0.mk (blk_below (g := gb278) (o := .cells #[.int .i64 a0_0, .int .i64 a0_1, .int .i64 a0_2, .int .i64 a0_3, .slice (some ad282) l0_4.length c0_4, .slice (some ad280) l0_5.length c0_5] 55 (0, 0)) Z1 hb); have n1_ := Aside0.mk (blk_below (g := gb281) (o := .cells #[.int .i64 ((rd_T134 l0_5 x23_2).f0), .int .i64 ((rd_T134 l0_5 x23_2).f1.f0), .int .i64 ((rd_T134 l0_5 x23_2).f1.f1.f0), .int .i64 ((rd_T134 l0_5 x23_2).f1.f1.f1), .int .i64 ((rd_T134 l0_5 x23_2).f1.f1.f2), .slice A280_5 ((rd_T134 l0_5 x23_2).f1.f2).length c280_5] 134 (0, 0)) Z0 hb); have n2_ := Aside0.mk (below_step Z18 hb); have n3_ := Aside0.mk (hbox); have n4_ := Aside0.mk ((by rw [hg]; exact (below_size Z18) : w.heap.size ≤ gb283)); have n5_ := Aside0.mk ((by rw [hg]; exact (below_size Z18) : w.heap.size ≤ gb283)); have n6_ := Aside0.mk ((by rw [hg]; exact Nat.ne_of_lt (blk_lt (g := gb278) (o := .cells #[.int .i64 a0_0, .int .i64 a0_1, .int .i64 a0_2, .int .i64 a0_3, .slice (some ad282) l0_4.length c0_4, .slice (some ad280) l0_5.length c0_5] 55 (0, 0)) Z1) : gb278 ≠ gb283)); have n7_ := Aside0.mk ((by rw [hg]; exact Nat.ne_of_gt (blk_lt (g := gb278) (o := .cells #[.int .i64 a0_0, .int .i64 a0_1, .int .i64 a0_2, .int .i64 a0_3, .slice (some ad282) l0_4.length c0_4, .slice (some ad280) l0_5.length c0_5] 55 (0, 0)) Z1) : gb283 ≠ gb278)); have n8_ := Aside0.mk ((by rw [hg]; exact Nat.ne_of_lt (blk_lt (g := gb281) (o := .cells #[.int .i64 ((rd_T134 l0_5 x23_2).f0), .int .i64 ((rd_T134 l0_5 x23_2).f1.f0), .int .i64 ((rd_T134 l0_5 x23_2).f1.f1.f0), .int .i64 ((rd_T134 l0_5 x23_2).f1.f1.f1), .int .i64 ((rd_T134 l0_5 x23_2).f1.f1.f2), .slice A280_5 ((rd_T134 l0_5 x23_2).f1.f2).length c280_5] 134 (0, 0)) Z0) : gb281 ≠ gb283)); have n9_ := Aside0.mk ((by rw [hg]; exact Nat.ne_of_gt (blk_lt (g := gb281) (o := .cells #[.int .i64 ((rd_T134 l0_5 x23_2).f0), .int .i64 ((rd_T134 l0_5 x23_2).f1.f0), .int .i64 ((rd_T134 l0_5 x23_2).f1.f1.f0), .int .i64 ((rd_T134 l0_5 x23_2).f1.f1.f1), .int .i64 ((rd_T134 l0_5 x23_2).f1.f1.f2), .slice A280_5 ((rd_T134 l0_5 x23_2).f1.f2).length c280_5] 134 (0, 0)) Z0) : gb283 ≠ gb281)); clear BK278; clear BK281; clear HB; have BK278 := n0_; have BK281 := n1_; have HB := n2_; have BK283 := n3_; have GW283 := n4_; have GE283 := n5_; have NB278_283 := n6_; have NB283_278 := n7_; have NB281_283 := n8_; have NB283_281 := n9_; clear n0_ n1_ n2_ n3_ n4_ n5_ n6_ n7_ n8_ n9_; clear hb hbox hg; (try have hnb41 := NB283_278.out); (try have hnc41 := NB278_283.out); (try have hnb42 := NB283_281.out); (try have hnc42 := NB281_283.out); have hcz43_0 : w40.cell? ⟨gb283, 0, none⟩ = some (.int .i64 0) := (blk_cell BK283.out 0).trans rfl; have hcz43_1 : w40.cell? ⟨gb283, 1, none⟩ = some (.int .i64 0) := (blk_cell BK283.out 1).trans rfl; have hcz43_2 : w40.cell? ⟨gb283, 2, none⟩ = some (.bool false) := (blk_cell BK283.out 2).trans rfl; have hcz43_3 : w40.cell? ⟨gb283, 3, none⟩ = some (.int .i64 0) := (blk_cell BK283.out 3).trans rfl; have hcz43_4 : w40.cell? ⟨gb283, 4, none⟩ = some (.int .i64 0) := (blk_cell BK283.out 4).trans rfl; have hcz43_5 : w40.cell? ⟨gb283, 5, none⟩ = some (.int .i64 0) := (blk_cell BK283.out 5).trans rfl; have hfz43_0 := blk_frozen BK283.out 0; have hfz43_1 := blk_frozen BK283.out 1; have hfz43_2 := blk_frozen BK283.out 2; have hfz43_3 := blk_frozen BK283.out 3; have hfz43_4 := blk_frozen BK283.out 4; have hfz43_5 := blk_frozen BK283.out 5))
                          have n0_ : Aside0 (((((((w40.setCell ⟨gb283, 0, none⟩ (.int .i64 ((rd_T136 l0_4 x23_2).f0))).setCell ⟨gb283, 1, none⟩ (.int .i64 ((rd_T136 l0_4 x23_2).f1))).setCell ⟨gb283, 2, none⟩ (.bool ((rd_T136 l0_4 x23_2).f2))).setCell ⟨gb283, 3, none⟩ (.int .i64 ((rd_T136 l0_4 x23_2).f3.f0))).setCell ⟨gb283, 4, none⟩ (.int .i64 ((rd_T136 l0_4 x23_2).f3.f1))).setCell ⟨gb283, 5, none⟩ (.int .i64 ((rd_T136 l0_4 x23_2).f3.f2))).heap[gb278]? = some (.cells #[.int .i64 a0_0, .int .i64 a0_1, .int .i64 a0_2, .int .i64 a0_3, .slice (some ad282) l0_4.length c0_4, .slice (some ad280) l0_5.length c0_5] 55 (0, 0))) := ⟨by (with_reducible repeat (first | refine blk_drewN ?_ _ | refine blk_drew ?_ | refine blk_alloc ?_ _)); refine blk_far ?_ NB278_283.out _; (with_reducible repeat (first | refine blk_drewN ?_ _ | refine blk_drew ?_ | refine blk_alloc ?_ _)); refine blk_far ?_ NB278_283.out _; (with_reducible repeat (first | refine blk_drewN ?_ _ | refine blk_drew ?_ | refine blk_alloc ?_ _)); refine blk_far ?_ NB278_283.out _; (with_reducible repeat (first | refine blk_drewN ?_ _ | refine blk_drew ?_ | refine blk_alloc ?_ _)); refine blk_far ?_ NB278_283.out _; (with_reducible repeat (first | refine blk_drewN ?_ _ | refine blk_drew ?_ | refine blk_alloc ?_ _)); refine blk_far ?_ NB278_283.out _; (with_reducible repeat (first | refine blk_drewN ?_ _ | refine blk_drew ?_ | refine blk_alloc ?_ _)); refine blk_far ?_ NB278_283.out _; (with_reducible repeat (first | refine blk_drewN ?_ _ | refine blk_drew ?_ | refine blk_alloc ?_ _)); exact BK278.out⟩
                          have n1_ : Aside0 (((((((w40.setCell ⟨gb283, 0, none⟩ (.int .i64 ((rd_T136 l0_4 x23_2).f0))).setCell ⟨gb283, 1, none⟩ (.int .i64 ((rd_T136 l0_4 x23_2).f1))).setCell ⟨gb283, 2, none⟩ (.bool ((rd_T136 l0_4 x23_2).f2))).setCell ⟨gb283, 3, none⟩ (.int .i64 ((rd_T136 l0_4 x23_2).f3.f0))).setCell ⟨gb283, 4, none⟩ (.int .i64 ((rd_T136 l0_4 x23_2).f3.f1))).setCell ⟨gb283, 5, none⟩ (.int .i64 ((rd_T136 l0_4 x23_2).f3.f2))).heap[gb281]? = some (.cells #[.int .i64 ((rd_T134 l0_5 x23_2).f0), .int .i64 ((rd_T134 l0_5 x23_2).f1.f0), .int .i64 ((rd_T134 l0_5 x23_2).f1.f1.f0), .int .i64 ((rd_T134 l0_5 x23_2).f1.f1.f1), .int .i64 ((rd_T134 l0_5 x23_2).f1.f1.f2), .slice A280_5 ((rd_T134 l0_5 x23_2).f1.f2).length c280_5] 134 (0, 0))) := ⟨by (with_reducible repeat (first | refine blk_drewN ?_ _ | refine blk_drew ?_ | refine blk_alloc ?_ _)); refine blk_far ?_ NB281_283.out _; (with_reducible repeat (first | refine blk_drewN ?_ _ | refine blk_drew ?_ | refine blk_alloc ?_ _)); refine blk_far ?_ NB281_283.out _; (with_reducible repeat (first | refine blk_drewN ?_ _ | refine blk_drew ?_ | refine blk_alloc ?_ _)); refine blk_far ?_ NB281_283.out _; (with_reducible repeat (first | refine blk_drewN ?_ _ | refine blk_drew ?_ | refine blk_alloc ?_ _)); refine blk_far ?_ NB281_283.out _; (with_reducible repeat (first | refine blk_drewN ?_ _ | refine blk_drew ?_ | refine blk_alloc ?_ _)); refine blk_far ?_ NB281_283.out _; (with_reducible repeat (first | refine blk_drewN ?_ _ | refine blk_drew ?_ | refine blk_alloc ?_ _)); refine blk_far ?_ NB281_283.out _; (with_reducible repeat (first | refine blk_drewN ?_ _ | refine blk_drew ?_ | refine blk_alloc ?_ _)); exact BK281.out⟩
                          have n2_ : Aside0 (((((((w40.setCell ⟨gb283, 0, none⟩ (.int .i64 ((rd_T136 l0_4 x23_2).f0))).setCell ⟨gb283, 1, none⟩ (.int .i64 ((rd_T136 l0_4 x23_2).f1))).setCell ⟨gb283, 2, none⟩ (.bool ((rd_T136 l0_4 x23_2).f2))).setCell ⟨gb283, 3, none⟩ (.int .i64 ((rd_T136 l0_4 x23_2).f3.f0))).setCell ⟨gb283, 4, none⟩ (.int .i64 ((rd_T136 l0_4 x23_2).f3.f1))).setCell ⟨gb283, 5, none⟩ (.int .i64 ((rd_T136 l0_4 x23_2).f3.f2))).heap[gb283]? = some (.cells #[.int .i64 ((rd_T136 l0_4 x23_2).f0), .int .i64 ((rd_T136 l0_4 x23_2).f1), .bool ((rd_T136 l0_4 x23_2).f2), .int .i64 ((rd_T136 l0_4 x23_2).f3.f0), .int .i64 ((rd_T136 l0_4 x23_2).f3.f1), .int .i64 ((rd_T136 l0_4 x23_2).f3.f2)] 136 (0, 0))) := ⟨by (with_reducible repeat (first | refine blk_drewN ?_ _ | refine blk_drew ?_ | refine blk_alloc ?_ _)); refine blk_put (cs := #[.int .i64 ((rd_T136 l0_4 x23_2).f0), .int .i64 ((rd_T136 l0_4 x23_2).f1), .bool ((rd_T136 l0_4 x23_2).f2), .int .i64 ((rd_T136 l0_4 x23_2).f3.f0), .int .i64 ((rd_T136 l0_4 x23_2).f3.f1), .int .i64 0]) ?_ 5 _ rfl; (with_reducible repeat (first | refine blk_drewN ?_ _ | refine blk_drew ?_ | refine blk_alloc ?_ _)); refine blk_put (cs := #[.int .i64 ((rd_T136 l0_4 x23_2).f0), .int .i64 ((rd_T136 l0_4 x23_2).f1), .bool ((rd_T136 l0_4 x23_2).f2), .int .i64 ((rd_T136 l0_4 x23_2).f3.f0), .int .i64 0, .int .i64 0]) ?_ 4 _ rfl; (with_reducible repeat (first | refine blk_drewN ?_ _ | refine blk_drew ?_ | refine blk_alloc ?_ _)); refine blk_put (cs := #[.int .i64 ((rd_T136 l0_4 x23_2).f0), .int .i64 ((rd_T136 l0_4 x23_2).f1), .bool ((rd_T136 l0_4 x23_2).f2), .int .i64 0, .int .i64 0, .int .i64 0]) ?_ 3 _ rfl; (with_reducible repeat (first | refine blk_drewN ?_ _ | refine blk_drew ?_ | refine blk_alloc ?_ _)); refine blk_put (cs := #[.int .i64 ((rd_T136 l0_4 x23_2).f0), .int .i64 ((rd_T136 l0_4 x23_2).f1), .bool false, .int .i64 0, .int .i64 0, .int .i64 0]) ?_ 2 _ rfl; (with_reducible repeat (first | refine blk_drewN ?_ _ | refine blk_drew ?_ | refine blk_alloc ?_ _)); refine blk_put (cs := #[.int .i64 ((rd_T136 l0_4 x23_2).f0), .int .i64 0, .bool false, .int .i64 0, .int .i64 0, .int .i64 0]) ?_ 1 _ rfl; (with_reducible repeat (first | refine blk_drewN ?_ _ | refine blk_drew ?_ | refine blk_alloc ?_ _)); refine blk_put (cs := #[.int .i64 0, .int .i64 0, .bool false, .int .i64 0, .int .i64 0, .int .i64 0]) ?_ 0 _ rfl; (with_reducible repeat (first | refine blk_drewN ?_ _ | refine blk_drew ?_ | refine blk_alloc ?_ _)); exact BK283.out⟩
                          have n3_ : Aside0 (Below w.heap.size w ((((((w40.setCell ⟨gb283, 0, none⟩ (.int .i64 ((rd_T136 l0_4 x23_2).f0))).setCell ⟨gb283, 1, none⟩ (.int .i64 ((rd_T136 l0_4 x23_2).f1))).setCell ⟨gb283, 2, none⟩ (.bool ((rd_T136 l0_4 x23_2).f2))).setCell ⟨gb283, 3, none⟩ (.int .i64 ((rd_T136 l0_4 x23_2).f3.f0))).setCell ⟨gb283, 4, none⟩ (.int .i64 ((rd_T136 l0_4 x23_2).f3.f1))).setCell ⟨gb283, 5, none⟩ (.int .i64 ((rd_T136 l0_4 x23_2).f3.f2)))) := ⟨by repeat (first | (with_reducible first | exact HB.out | apply below_alloc | apply pw_below_drewN | apply below_drew1 | refine below_set ?_ GE278.out | refine below_set ?_ GE281.out | refine below_set ?_ GE283.out) | exact HB.out)⟩
                          (try clear BK278)
                          (try clear BK281)
                          (try clear BK283)
                          (try clear HB)
                          generalize ((((((w40.setCell ⟨gb283, 0, none⟩ (.int .i64 ((rd_T136 l0_4 x23_2).f0))).setCell ⟨gb283, 1, none⟩ (.int .i64 ((rd_T136 l0_4 x23_2).f1))).setCell ⟨gb283, 2, none⟩ (.bool ((rd_T136 l0_4 x23_2).f2))).setCell ⟨gb283, 3, none⟩ (.int .i64 ((rd_T136 l0_4 x23_2).f3.f0))).setCell ⟨gb283, 4, none⟩ (.int .i64 ((rd_T136 l0_4 x23_2).f3.f1))).setCell ⟨gb283, 5, none⟩ (.int .i64 ((rd_T136 l0_4 x23_2).f3.f2))) = w44 at n0_ n1_ n2_ n3_ ⊢
                          have BK278 := n0_
                          have BK281 := n1_
                          have BK283 := n2_
                          have HB := n3_
                          clear n0_ n1_ n2_ n3_
                          have n0_ := Aside0.mk (blk_drew BK278.out)
                          have n1_ := Aside0.mk (blk_drew BK281.out)
                          have n2_ := Aside0.mk (blk_drew BK283.out)
                          have n3_ := Aside0.mk (below_drew1 HB.out)
                          clear BK278
                          clear BK281
                          clear BK283
                          clear HB
                          have BK278 := n0_
                          have BK281 := n1_
                          have BK283 := n2_
                          have HB := n3_
                          clear n0_ n1_ n2_ n3_
                          refine start_ (n := 28) (S := fun w' => w'.cell? ⟨gb281, 0, none⟩ = some (.int .i64 ((rd_T134 l0_5 x23_2).f0)) ∧ w'.cell? ⟨gb281, 1, none⟩ = some (.int .i64 ((rd_T134 l0_5 x23_2).f1.f0)) ∧ w'.cell? ⟨gb281, 2, none⟩ = some (.int .i64 ((rd_T134 l0_5 x23_2).f1.f1.f0)) ∧ w'.cell? ⟨gb281, 3, none⟩ = some (.int .i64 ((rd_T134 l0_5 x23_2).f1.f1.f1)) ∧ w'.cell? ⟨gb281, 4, none⟩ = some (.int .i64 ((rd_T134 l0_5 x23_2).f1.f1.f2)) ∧ w'.cell? ⟨gb281, 5, none⟩ = some (.slice A280_5 ((rd_T134 l0_5 x23_2).f1.f2).length c280_5) ∧ w'.cell? ⟨gb283, 0, none⟩ = some (.int .i64 ((rd_T136 l0_4 x23_2).f0)) ∧ w'.cell? ⟨gb283, 1, none⟩ = some (.int .i64 ((rd_T136 l0_4 x23_2).f1)) ∧ w'.cell? ⟨gb283, 2, none⟩ = some (.bool ((rd_T136 l0_4 x23_2).f2)) ∧ w'.cell? ⟨gb283, 3, none⟩ = some (.int .i64 ((rd_T136 l0_4 x23_2).f3.f0)) ∧ w'.cell? ⟨gb283, 4, none⟩ = some (.int .i64 ((rd_T136 l0_4 x23_2).f3.f1)) ∧ w'.cell? ⟨gb283, 5, none⟩ = some (.int .i64 ((rd_T136 l0_4 x23_2).f3.f2)) ∧ w'.cell? ⟨gb278, 0, none⟩ = some (.int .i64 a0_0) ∧ w'.cell? ⟨gb278, 1, none⟩ = some (.int .i64 a0_1) ∧ w'.cell? ⟨gb278, 2, none⟩ = some (.int .i64 a0_2) ∧ w'.cell? ⟨gb278, 3, none⟩ = some (.int .i64 a0_3) ∧ w'.cell? ⟨gb278, 4, none⟩ = some (.slice (some ad282) l0_4.length c0_4) ∧ w'.cell? ⟨gb278, 5, none⟩ = some (.slice (some ad280) l0_5.length c0_5)) (ds := []) (bz 28 0) (by kernel_rfl) rfl (by kernel_rfl) ⟨(blk_cell BK281.out 0).trans rfl, (blk_cell BK281.out 1).trans rfl, (blk_cell BK281.out 2).trans rfl, (blk_cell BK281.out 3).trans rfl, (blk_cell BK281.out 4).trans rfl, (blk_cell BK281.out 5).trans rfl, (blk_cell BK283.out 0).trans rfl, (blk_cell BK283.out 1).trans rfl, (blk_cell BK283.out 2).trans rfl, (blk_cell BK283.out 3).trans rfl, (blk_cell BK283.out 4).trans rfl, (blk_cell BK283.out 5).trans rfl, (blk_cell BK278.out 0).trans rfl, (blk_cell BK278.out 1).trans rfl, (blk_cell BK278.out 2).trans rfl, (blk_cell BK278.out 3).trans rfl, (blk_cell BK278.out 4).trans rfl, (blk_cell BK278.out 5).trans rfl⟩ (fun hHeld => ?_); refine with_tabW impl_TreeOk.tab7 impl_TreeOk.bits7 (fun HT_ HW_ => ?_)
                          generalize w44.drew = w45 at BK278 BK281 BK283 HB hHeld ⊢
                          refine px_ (i := 0) (N := some 34) (bz 28 1) (any_of HT_.out (by kernel_rfl)) ?_
                          refine px_ (i := 2) (N := some 36) (bz 28 5) (any_of HT_.out (by kernel_rfl)) ?_
                          refine tx_ (i := 1) (N := some 35) (bz 28 7) rfl rfl (take_ofW HT_.out HW_.out (by kernel_rfl)) hHeld Z49 ?_
                          refine tx_ (i := 3) (N := some 37) (bz 28 15) rfl rfl (take_ofW HT_.out HW_.out (by kernel_rfl)) hHeld Z49 ?_
                          refine px_ (i := 4) (N := some 38) (bz 28 31) (any_of HT_.out (by kernel_rfl)) ?_
                          refine px_ (i := 5) (N := some 39) (bz 28 63) (any_of HT_.out (by kernel_rfl)) ?_
                          refine px_ (i := 6) (N := some 40) (bz 28 127) (any_of HT_.out (by kernel_rfl)) ?_
                          refine tx_ (i := 7) (N := some 41) (bz 28 255) rfl rfl (take_ofW HT_.out HW_.out (by kernel_rfl)) hHeld Z49 ?_
                          refine one_ (i := 8) (N := some 42) (bz 28 511) rfl rfl (one_of HT_.out (by kernel_rfl)) (by decide) (fun K hK => ?_)
                          refine goes_ Try.func117 (by kernel_rfl) rfl #[.agg #[.int .i64 ((rd_T134 l0_5 x23_2).f1.f0), .int .i64 ((rd_T134 l0_5 x23_2).f1.f1.f0), .int .i64 ((rd_T134 l0_5 x23_2).f1.f1.f1), .int .i64 ((rd_T134 l0_5 x23_2).f1.f1.f2), .slice A280_5 ((rd_T134 l0_5 x23_2).f1.f2).length c280_5]] (by rfl) rfl rfl Z41 ?_
                          with_reducible refine (impl_FairOk.calls k2 ((rd_T134 l0_5 x23_2).f1.f0) ((rd_T134 l0_5 x23_2).f1.f1.f0) ((rd_T134 l0_5 x23_2).f1.f1.f1) ((rd_T134 l0_5 x23_2).f1.f1.f2) _ _ ((rd_T134 l0_5 x23_2).f1.f2) true _ ?side1 ?side2 A18.out).mono ?_
                          (case side1 => repeat (first | exact (Kd.C_below HR280_5.out HB.out) | (with_reducible refine Kd.C_alloc ?_ _) | (with_reducible refine Kd.C_drewN ?_ _) | (with_reducible refine Kd.C_drew ?_)))
                          (case side2 => exact HC280_5.out)
                          rintro e w46 ⟨rfl, hb⟩
                          refine ⟨_, rfl, ?_⟩
                          have n0_ := Aside0.mk (blk_below (g := gb278) (o := .cells #[.int .i64 a0_0, .int .i64 a0_1, .int .i64 a0_2, .int .i64 a0_3, .slice (some ad282) l0_4.length c0_4, .slice (some ad280) l0_5.length c0_5] 55 (0, 0)) Z81 hb)
                          have n1_ := Aside0.mk (blk_below (g := gb281) (o := .cells #[.int .i64 ((rd_T134 l0_5 x23_2).f0), .int .i64 ((rd_T134 l0_5 x23_2).f1.f0), .int .i64 ((rd_T134 l0_5 x23_2).f1.f1.f0), .int .i64 ((rd_T134 l0_5 x23_2).f1.f1.f1), .int .i64 ((rd_T134 l0_5 x23_2).f1.f1.f2), .slice A280_5 ((rd_T134 l0_5 x23_2).f1.f2).length c280_5] 134 (0, 0)) Z82 hb)
                          have n2_ := Aside0.mk (blk_below (g := gb283) (o := .cells #[.int .i64 ((rd_T136 l0_4 x23_2).f0), .int .i64 ((rd_T136 l0_4 x23_2).f1), .bool ((rd_T136 l0_4 x23_2).f2), .int .i64 ((rd_T136 l0_4 x23_2).f3.f0), .int .i64 ((rd_T136 l0_4 x23_2).f3.f1), .int .i64 ((rd_T136 l0_4 x23_2).f3.f2)] 136 (0, 0)) Z83 hb)
                          have n3_ := Aside0.mk (below_step Z5 hb)
                          clear BK278
                          clear BK281
                          clear BK283
                          clear HB
                          have BK278 := n0_
                          have BK281 := n1_
                          have BK283 := n2_
                          have HB := n3_
                          clear n0_ n1_ n2_ n3_
                          (try clear hb)
                          (try clear hb2)
                          (try clear hk)
                          (try clear hi)
                          refine hK.out _ _ ⟨(blk_cell BK281.out 0).trans rfl, (blk_cell BK281.out 1).trans rfl, (blk_cell BK281.out 2).trans rfl, (blk_cell BK281.out 3).trans rfl, (blk_cell BK281.out 4).trans rfl, (blk_cell BK281.out 5).trans rfl, (blk_cell BK283.out 0).trans rfl, (blk_cell BK283.out 1).trans rfl, (blk_cell BK283.out 2).trans rfl, (blk_cell BK283.out 3).trans rfl, (blk_cell BK283.out 4).trans rfl, (blk_cell BK283.out 5).trans rfl, (blk_cell BK278.out 0).trans rfl, (blk_cell BK278.out 1).trans rfl, (blk_cell BK278.out 2).trans rfl, (blk_cell BK278.out 3).trans rfl, (blk_cell BK278.out 4).trans rfl, (blk_cell BK278.out 5).trans rfl⟩ (fun hHeld => ?_)
                          clear hK K
                          refine nx_ (N := some 42) ?_
                          refine px_ (i := 9) (N := some 43) (bz 28 1023) (any_of HT_.out (by kernel_rfl)) ?_
                          refine px_ (i := 10) (N := some 44) (bz 28 2047) (any_of HT_.out (by kernel_rfl)) ?_
                          refine px_ (i := 11) (N := some 45) (bz 28 4095) (any_of HT_.out (by kernel_rfl)) ?_
                          refine px_ (i := 12) (N := some 46) (bz 28 8191) (any_of HT_.out (by kernel_rfl)) ?_
                          refine px_ (i := 13) (N := some 47) (bz 28 16383) (any_of HT_.out (by kernel_rfl)) ?_
                          refine px_ (i := 15) (N := some 49) (bz 28 49151) (any_of HT_.out (by kernel_rfl)) ?_
                          refine px_ (i := 16) (N := some 50) (bz 28 114687) (any_of HT_.out (by kernel_rfl)) ?_
                          refine tx_ (i := 14) (N := some 48) (bz 28 131071) rfl rfl (take_ofW HT_.out HW_.out (by kernel_rfl)) hHeld Z49 ?_
                          refine tx_ (i := 17) (N := some 51) (bz 28 262143) rfl rfl (take_ofW HT_.out HW_.out (by kernel_rfl)) hHeld Z49 ?_
                          refine px_ (i := 18) (N := some 52) (bz 28 524287) (any_of HT_.out (by kernel_rfl)) ?_
                          refine px_ (i := 19) (N := some 53) (bz 28 1048575) (any_of HT_.out (by kernel_rfl)) ?_
                          refine px_ (i := 20) (N := some 54) (bz 28 2097151) (any_of HT_.out (by kernel_rfl)) ?_
                          refine ox_ (i := 21) (N := some 55) (bz 28 4194303) (any_of HT_.out (by kernel_rfl)) ?_
                          refine ox_ (i := 22) (N := some 56) (bz 28 8388607) (any_of HT_.out (by kernel_rfl)) ?_
                          refine ox_ (i := 23) (N := some 57) (bz 28 16777215) (any_of HT_.out (by kernel_rfl)) ?_
                          refine ox_ (i := 24) (N := some 58) (bz 28 33554431) (any_of HT_.out (by kernel_rfl)) ?_
                          refine ox_ (i := 25) (N := some 59) (bz 28 67108863) (any_of HT_.out (by kernel_rfl)) ?_
                          refine ox_ (i := 26) (N := some 60) (bz 28 134217727) (any_of HT_.out (by kernel_rfl)) ?_
                          refine px_ (i := 27) (N := some 61) (bz 28 268435455) (any_of HT_.out (by kernel_rfl)) ?_
                          refine done_ (done_of HT_.out (by kernel_rfl)) ?_
                          try go_wp2
                          go_ret
                          exact ⟨by first | rfl | (simp [errW_none, errW_some] <;> rfl) | (simp [*, errW_none, errW_some] <;> rfl), by repeat (first | (with_reducible first | exact HB.out | apply below_alloc | apply pw_below_drewN | apply below_drew1 | refine below_set ?_ GE278.out | refine below_set ?_ GE281.out | refine below_set ?_ GE283.out) | exact HB.out)⟩
                      · replace c19 := Bool.eq_false_iff.mpr c19
                        subst c19
                        have H1 : (some false) = some r := by rw [if_neg (show ¬ (false = true) by decide)] at H; exact H
                        clear H
                        have H := H1
                        clear H1
                        obtain rfl := Option.some.inj H
                        have p280 : 0 ≤ (x23_2 : Int) := of_decide_eq_true Z97
                        have q280 : x23_2 < (l0_5.length : Int) := of_decide_eq_true Z97
                        obtain ⟨ad280, A280_5, c280_5, e280, hx280_0, hx280_1, hx280_2, hx280_3, hx280_4, hx280_5, hl280_5, hi280_5⟩ := at_T134 HR0_5.out x23_2 p280 q280
                        cases e280
                        replace hx280_0 := (HB.out.cell (World.block_lt_of_cell? w _ hx280_0)).trans hx280_0
                        replace hx280_1 := (HB.out.cell (World.block_lt_of_cell? w _ hx280_1)).trans hx280_1
                        replace hx280_2 := (HB.out.cell (World.block_lt_of_cell? w _ hx280_2)).trans hx280_2
                        replace hx280_3 := (HB.out.cell (World.block_lt_of_cell? w _ hx280_3)).trans hx280_3
                        replace hx280_4 := (HB.out.cell (World.block_lt_of_cell? w _ hx280_4)).trans hx280_4
                        replace hx280_5 := (HB.out.cell (World.block_lt_of_cell? w _ hx280_5)).trans hx280_5
                        have HR280_5 := Aside0.mk hi280_5
                        have HC280_5 := Aside0.mk hl280_5
                        clear hi280_5 hl280_5
                        replace p280 := eq_true p280
                        replace q280 := eq_true q280
                        try go_wp2_with (first | ((with_reducible refine gate_dst (N := 4) rfl ?_); (try (refine gate_guard (by rfl) ?_; dsimp only)); refine box_event ?hg (N := 4) ?hd (cs := #[.int .i64 0, .int .i64 0, .int .i64 0, .int .i64 0, .int .i64 0, .slice none 0 0]) (t := 134) ?hr ?_; (case hd => rfl); (case hg => rfl); (case hr => first | (go_simp; done) | (go_simp; rfl)); intro gb281 hg w47 hbox hb; have n0_ := Aside0.mk (blk_below (g := gb278) (o := .cells #[.int .i64 a0_0, .int .i64 a0_1, .int .i64 a0_2, .int .i64 a0_3, .slice A0_4 l0_4.length c0_4, .slice (some ad280) l0_5.length c0_5] 55 (0, 0)) Z81 hb); have n1_ := Aside0.mk (below_step Z39 hb); have n2_ := Aside0.mk (hbox); have n3_ := Aside0.mk ((by rw [hg]; exact (below_size Z39) : w.heap.size ≤ gb281)); have n4_ := Aside0.mk ((by rw [hg]; exact (below_size Z39) : w.heap.size ≤ gb281)); have n5_ := Aside0.mk ((by rw [hg]; exact Nat.ne_of_lt (blk_lt (g := gb278) (o := .cells #[.int .i64 a0_0, .int .i64 a0_1, .int .i64 a0_2, .int .i64 a0_3, .slice A0_4 l0_4.length c0_4, .slice (some ad280) l0_5.length c0_5] 55 (0, 0)) Z81) : gb278 ≠ gb281)); have n6_ := Aside0.mk ((by rw [hg]; exact Nat.ne_of_gt (blk_lt (g := gb278) (o := .cells #[.int .i64 a0_0, .int .i64 a0_1, .int .i64 a0_2, .int .i64 a0_3, .slice A0_4 l0_4.length c0_4, .slice (some ad280) l0_5.length c0_5] 55 (0, 0)) Z81) : gb281 ≠ gb278)); clear BK278; clear HB; have BK278 := n0_; have HB := n1_; have BK281 := n2_; have GW281 := n3_; have GE281 := n4_; have NB278_281 := n5_; have NB281_278 := n6_; clear n0_ n1_ n2_ n3_ n4_ n5_ n6_; clear hb hbox hg; (try have hnb48 := NB281_278.out); (try have hnc48 := NB278_281.out); have hcz49_0 : w47.cell? ⟨gb281, 0, none⟩ = some (.int .i64 0) := (blk_cell BK281.out 0).trans rfl; have hcz49_1 : w47.cell? ⟨gb281, 1, none⟩ = some (.int .i64 0) := (blk_cell BK281.out 1).trans rfl; have hcz49_2 : w47.cell? ⟨gb281, 2, none⟩ = some (.int .i64 0) := (blk_cell BK281.out 2).trans rfl; have hcz49_3 : w47.cell? ⟨gb281, 3, none⟩ = some (.int .i64 0) := (blk_cell BK281.out 3).trans rfl; have hcz49_4 : w47.cell? ⟨gb281, 4, none⟩ = some (.int .i64 0) := (blk_cell BK281.out 4).trans rfl; have hcz49_5 : w47.cell? ⟨gb281, 5, none⟩ = some (.slice none 0 0) := (blk_cell BK281.out 5).trans rfl; have hfz49_0 := blk_frozen BK281.out 0; have hfz49_1 := blk_frozen BK281.out 1; have hfz49_2 := blk_frozen BK281.out 2; have hfz49_3 := blk_frozen BK281.out 3; have hfz49_4 := blk_frozen BK281.out 4; have hfz49_5 := blk_frozen BK281.out 5; have hcz50_0 : w47.cell? ⟨gb278, 0, none⟩ = some (.int .i64 a0_0) := (blk_cell BK278.out 0).trans rfl; have hcz50_1 : w47.cell? ⟨gb278, 1, none⟩ = some (.int .i64 a0_1) := (blk_cell BK278.out 1).trans rfl; have hcz50_2 : w47.cell? ⟨gb278, 2, none⟩ = some (.int .i64 a0_2) := (blk_cell BK278.out 2).trans rfl; have hcz50_3 : w47.cell? ⟨gb278, 3, none⟩ = some (.int .i64 a0_3) := (blk_cell BK278.out 3).trans rfl; have hcz50_4 : w47.cell? ⟨gb278, 4, none⟩ = some (.slice A0_4 l0_4.length c0_4) := (blk_cell BK278.out 4).trans rfl; have hcz50_5 : w47.cell? ⟨gb278, 5, none⟩ = some (.slice (some ad280) l0_5.length c0_5) := (blk_cell BK278.out 5).trans rfl; have hfz50_0 := blk_frozen BK278.out 0; have hfz50_1 := blk_frozen BK278.out 1; have hfz50_2 := blk_frozen BK278.out 2; have hfz50_3 := blk_frozen BK278.out 3; have hfz50_4 := blk_frozen BK278.out 4; have hfz50_5 := blk_frozen BK278.out 5; have p282 : 0 ≤ (x23_2 : Int) := of_decide_eq_true Z97; have q282 : x23_2 < (l0_4.length : Int) := of_decide_eq_true Z97; obtain ⟨ad282, e282, hx282_0, hx282_1, hx282_2, hx282_3, hx282_4, hx282_5⟩ := at_T136 HR0_4.out x23_2 p282 q282; cases e282; have hn282_0 : ad282.block ≠ gb281 := Nat.ne_of_lt (Nat.lt_of_lt_of_le Z93 GW281.out); have hn282_1 : ad282.block ≠ gb281 := Nat.ne_of_lt (Nat.lt_of_lt_of_le Z93 GW281.out); have hn282_2 : ad282.block ≠ gb281 := Nat.ne_of_lt (Nat.lt_of_lt_of_le Z93 GW281.out); have hn282_3 : ad282.block ≠ gb281 := Nat.ne_of_lt (Nat.lt_of_lt_of_le Z93 GW281.out); have hn282_4 : ad282.block ≠ gb281 := Nat.ne_of_lt (Nat.lt_of_lt_of_le Z93 GW281.out); have hn282_5 : ad282.block ≠ gb281 := Nat.ne_of_lt (Nat.lt_of_lt_of_le Z93 GW281.out); replace hx282_0 := (HB.out.cell (World.block_lt_of_cell? w _ hx282_0)).trans hx282_0; replace hx282_1 := (HB.out.cell (World.block_lt_of_cell? w _ hx282_1)).trans hx282_1; replace hx282_2 := (HB.out.cell (World.block_lt_of_cell? w _ hx282_2)).trans hx282_2; replace hx282_3 := (HB.out.cell (World.block_lt_of_cell? w _ hx282_3)).trans hx282_3; replace hx282_4 := (HB.out.cell (World.block_lt_of_cell? w _ hx282_4)).trans hx282_4; replace hx282_5 := (HB.out.cell (World.block_lt_of_cell? w _ hx282_5)).trans hx282_5; replace hx282_0 := (cell_far (p := ⟨gb281, 0, none⟩) Z43 (.int .i64 ((rd_T134 l0_5 x23_2).f0))).trans hx282_0; replace hx282_1 := (cell_far (p := ⟨gb281, 0, none⟩) Z43 (.int .i64 ((rd_T134 l0_5 x23_2).f0))).trans hx282_1; replace hx282_2 := (cell_far (p := ⟨gb281, 0, none⟩) Z43 (.int .i64 ((rd_T134 l0_5 x23_2).f0))).trans hx282_2; replace hx282_3 := (cell_far (p := ⟨gb281, 0, none⟩) Z43 (.int .i64 ((rd_T134 l0_5 x23_2).f0))).trans hx282_3; replace hx282_4 := (cell_far (p := ⟨gb281, 0, none⟩) Z43 (.int .i64 ((rd_T134 l0_5 x23_2).f0))).trans hx282_4; replace hx282_5 := (cell_far (p := ⟨gb281, 0, none⟩) Z43 (.int .i64 ((rd_T134 l0_5 x23_2).f0))).trans hx282_5; replace hx282_0 := (cell_far (p := ⟨gb281, 1, none⟩) Z44 (.int .i64 ((rd_T134 l0_5 x23_2).f1.f0))).trans hx282_0; replace hx282_1 := (cell_far (p := ⟨gb281, 1, none⟩) Z44 (.int .i64 ((rd_T134 l0_5 x23_2).f1.f0))).trans hx282_1; replace hx282_2 := (cell_far (p := ⟨gb281, 1, none⟩) Z44 (.int .i64 ((rd_T134 l0_5 x23_2).f1.f0))).trans hx282_2; replace hx282_3 := (cell_far (p := ⟨gb281, 1, none⟩) Z44 (.int .i64 ((rd_T134 l0_5 x23_2).f1.f0))).trans hx282_3; replace hx282_4 := (cell_far (p := ⟨gb281, 1, none⟩) Z44 (.int .i64 ((rd_T134 l0_5 x23_2).f1.f0))).trans hx282_4; replace hx282_5 := (cell_far (p := ⟨gb281, 1, none⟩) Z44 (.int .i64 ((rd_T134 l0_5 x23_2).f1.f0))).trans hx282_5; replace hx282_0 := (cell_far (p := ⟨gb281, 2, none⟩) Z45 (.int .i64 ((rd_T134 l0_5 x23_2).f1.f1.f0))).trans hx282_0; replace hx282_1 := (cell_far (p := ⟨gb281, 2, none⟩) Z45 (.int .i64 ((rd_T134 l0_5 x23_2).f1.f1.f0))).trans hx282_1; replace hx282_2 := (cell_far (p := ⟨gb281, 2, none⟩) Z45 (.int .i64 ((rd_T134 l0_5 x23_2).f1.f1.f0))).trans hx282_2; replace hx282_3 := (cell_far (p := ⟨gb281, 2, none⟩) Z45 (.int .i64 ((rd_T134 l0_5 x23_2).f1.f1.f0))).trans hx282_3; replace hx282_4 := (cell_far (p := ⟨gb281, 2, none⟩) Z45 (.int .i64 ((rd_T134 l0_5 x23_2).f1.f1.f0))).trans hx282_4; replace hx282_5 := (cell_far (p := ⟨gb281, 2, none⟩) Z45 (.int .i64 ((rd_T134 l0_5 x23_2).f1.f1.f0))).trans hx282_5; replace hx282_0 := (cell_far (p := ⟨gb281, 3, none⟩) Z46 (.int .i64 ((rd_T134 l0_5 x23_2).f1.f1.f1))).trans hx282_0; replace hx282_1 := (cell_far (p := ⟨gb281, 3, none⟩) Z46 (.int .i64 ((rd_T134 l0_5 x23_2).f1.f1.f1))).trans hx282_1; replace hx282_2 := (cell_far (p := ⟨gb281, 3, none⟩) Z46 (.int .i64 ((rd_T134 l0_5 x23_2).f1.f1.f1))).trans hx282_2; replace hx282_3 := (cell_far (p := ⟨gb281, 3, none⟩) Z46 (.int .i64 ((rd_T134 l0_5 x23_2).f1.f1.f1))).trans hx282_3; replace hx282_4 := (cell_far (p := ⟨gb281, 3, none⟩) Z46 (.int .i64 ((rd_T134 l0_5 x23_2).f1.f1.f1))).trans hx282_4; replace hx282_5 := (cell_far (p := ⟨gb281, 3, none⟩) Z46 (.int .i64 ((rd_T134 l0_5 x23_2).f1.f1.f1))).trans hx282_5; replace hx282_0 := (cell_far (p := ⟨gb281, 4, none⟩) Z47 (.int .i64 ((rd_T134 l0_5 x23_2).f1.f1.f2))).trans hx282_0; replace hx282_1 := (cell_far (p := ⟨gb281, 4, none⟩) Z47 (.int .i64 ((rd_T134 l0_5 x23_2).f1.f1.f2))).trans hx282_1; replace hx282_2 := (cell_far (p := ⟨gb281, 4, none⟩) Z47 (.int .i64 ((rd_T134 l0_5 x23_2).f1.f1.f2))).trans hx282_2; replace hx282_3 := (cell_far (p := ⟨gb281, 4, none⟩) Z47 (.int .i64 ((rd_T134 l0_5 x23_2).f1.f1.f2))).trans hx282_3; replace hx282_4 := (cell_far (p := ⟨gb281, 4, none⟩) Z47 (.int .i64 ((rd_T134 l0_5 x23_2).f1.f1.f2))).trans hx282_4; replace hx282_5 := (cell_far (p := ⟨gb281, 4, none⟩) Z47 (.int .i64 ((rd_T134 l0_5 x23_2).f1.f1.f2))).trans hx282_5; replace hx282_0 := (cell_far (p := ⟨gb281, 5, none⟩) Z48 (.slice A280_5 ((rd_T134 l0_5 x23_2).f1.f2).length c280_5)).trans hx282_0; replace hx282_1 := (cell_far (p := ⟨gb281, 5, none⟩) Z48 (.slice A280_5 ((rd_T134 l0_5 x23_2).f1.f2).length c280_5)).trans hx282_1; replace hx282_2 := (cell_far (p := ⟨gb281, 5, none⟩) Z48 (.slice A280_5 ((rd_T134 l0_5 x23_2).f1.f2).length c280_5)).trans hx282_2; replace hx282_3 := (cell_far (p := ⟨gb281, 5, none⟩) Z48 (.slice A280_5 ((rd_T134 l0_5 x23_2).f1.f2).length c280_5)).trans hx282_3; replace hx282_4 := (cell_far (p := ⟨gb281, 5, none⟩) Z48 (.slice A280_5 ((rd_T134 l0_5 x23_2).f1.f2).length c280_5)).trans hx282_4; replace hx282_5 := (cell_far (p := ⟨gb281, 5, none⟩) Z48 (.slice A280_5 ((rd_T134 l0_5 x23_2).f1.f2).length c280_5)).trans hx282_5; clear hn282_0; clear hn282_1; clear hn282_2; clear hn282_3; clear hn282_4; clear hn282_5; replace p282 := eq_true p282; replace q282 := eq_true q282) | ((with_reducible refine gate_dst (N := 5) rfl ?_); (try (refine gate_guard (by rfl) ?_; dsimp only)); refine box_event ?hg (N := 5) ?hd (cs := #[.int .i64 0, .int .i64 0, .bool false, .int .i64 0, .int .i64 0, .int .i64 0]) (t := 136) ?hr ?_; (case hd => rfl); (case hg => rfl); (case hr => first | (go_simp; done) | (go_simp; rfl)); intro gb283 hg w51 hbox hb; have n0_ := Aside0.mk (blk_below (g := gb278) (o := .cells #[.int .i64 a0_0, .int .i64 a0_1, .int .i64 a0_2, .int .i64 a0_3, .slice (some ad282) l0_4.length c0_4, .slice (some ad280) l0_5.length c0_5] 55 (0, 0)) Z1 hb); have n1_ := Aside0.mk (blk_below (g := gb281) (o := .cells #[.int .i64 ((rd_T134 l0_5 x23_2).f0), .int .i64 ((rd_T134 l0_5 x23_2).f1.f0), .int .i64 ((rd_T134 l0_5 x23_2).f1.f1.f0), .int .i64 ((rd_T134 l0_5 x23_2).f1.f1.f1), .int .i64 ((rd_T134 l0_5 x23_2).f1.f1.f2), .slice A280_5 ((rd_T134 l0_5 x23_2).f1.f2).length c280_5] 134 (0, 0)) Z0 hb); have n2_ := Aside0.mk (below_step Z18 hb); have n3_ := Aside0.mk (hbox); have n4_ := Aside0.mk ((by rw [hg]; exact (below_size Z18) : w.heap.size ≤ gb283)); have n5_ := Aside0.mk ((by rw [hg]; exact (below_size Z18) : w.heap.size ≤ gb283)); have n6_ := Aside0.mk ((by rw [hg]; exact Nat.ne_of_lt (blk_lt (g := gb278) (o := .cells #[.int .i64 a0_0, .int .i64 a0_1, .int .i64 a0_2, .int .i64 a0_3, .slice (some ad282) l0_4.length c0_4, .slice (some ad280) l0_5.length c0_5] 55 (0, 0)) Z1) : gb278 ≠ gb283)); have n7_ := Aside0.mk ((by rw [hg]; exact Nat.ne_of_gt (blk_lt (g := gb278) (o := .cells #[.int .i64 a0_0, .int .i64 a0_1, .int .i64 a0_2, .int .i64 a0_3, .slice (some ad282) l0_4.length c0_4, .slice (some ad280) l0_5.length c0_5] 55 (0, 0)) Z1) : gb283 ≠ gb278)); have n8_ := Aside0.mk ((by rw [hg]; exact Nat.ne_of_lt (blk_lt (g := gb281) (o := .cells #[.int .i64 ((rd_T134 l0_5 x23_2).f0), .int .i64 ((rd_T134 l0_5 x23_2).f1.f0), .int .i64 ((rd_T134 l0_5 x23_2).f1.f1.f0), .int .i64 ((rd_T134 l0_5 x23_2).f1.f1.f1), .int .i64 ((rd_T134 l0_5 x23_2).f1.f1.f2), .slice A280_5 ((rd_T134 l0_5 x23_2).f1.f2).length c280_5] 134 (0, 0)) Z0) : gb281 ≠ gb283)); have n9_ := Aside0.mk ((by rw [hg]; exact Nat.ne_of_gt (blk_lt (g := gb281) (o := .cells #[.int .i64 ((rd_T134 l0_5 x23_2).f0), .int .i64 ((rd_T134 l0_5 x23_2).f1.f0), .int .i64 ((rd_T134 l0_5 x23_2).f1.f1.f0), .int .i64 ((rd_T134 l0_5 x23_2).f1.f1.f1), .int .i64 ((rd_T134 l0_5 x23_2).f1.f1.f2), .slice A280_5 ((rd_T134 l0_5 x23_2).f1.f2).length c280_5] 134 (0, 0)) Z0) : gb283 ≠ gb281)); clear BK278; clear BK281; clear HB; have BK278 := n0_; have BK281 := n1_; have HB := n2_; have BK283 := n3_; have GW283 := n4_; have GE283 := n5_; have NB278_283 := n6_; have NB283_278 := n7_; have NB281_283 := n8_; have NB283_281 := n9_; clear n0_ n1_ n2_ n3_ n4_ n5_ n6_ n7_ n8_ n9_; clear hb hbox hg; (try have hnb52 := NB283_278.out); (try have hnc52 := NB278_283.out); (try have hnb53 := NB283_281.out); (try have hnc53 := NB281_283.out); have hcz54_0 : w51.cell? ⟨gb283, 0, none⟩ = some (.int .i64 0) := (blk_cell BK283.out 0).trans rfl; have hcz54_1 : w51.cell? ⟨gb283, 1, none⟩ = some (.int .i64 0) := (blk_cell BK283.out 1).trans rfl; have hcz54_2 : w51.cell? ⟨gb283, 2, none⟩ = some (.bool false) := (blk_cell BK283.out 2).trans rfl; have hcz54_3 : w51.cell? ⟨gb283, 3, none⟩ = some (.int .i64 0) := (blk_cell BK283.out 3).trans rfl; have hcz54_4 : w51.cell? ⟨gb283, 4, none⟩ = some (.int .i64 0) := (blk_cell BK283.out 4).trans rfl; have hcz54_5 : w51.cell? ⟨gb283, 5, none⟩ = some (.int .i64 0) := (blk_cell BK283.out 5).trans rfl; have hfz54_0 := blk_frozen BK283.out 0; have hfz54_1 := blk_frozen BK283.out 1; have hfz54_2 := blk_frozen BK283.out 2; have hfz54_3 := blk_frozen BK283.out 3; have hfz54_4 := blk_frozen BK283.out 4; have hfz54_5 := blk_frozen BK283.out 5))
                        have n0_ : Aside0 (((((((w51.setCell ⟨gb283, 0, none⟩ (.int .i64 ((rd_T136 l0_4 x23_2).f0))).setCell ⟨gb283, 1, none⟩ (.int .i64 ((rd_T136 l0_4 x23_2).f1))).setCell ⟨gb283, 2, none⟩ (.bool ((rd_T136 l0_4 x23_2).f2))).setCell ⟨gb283, 3, none⟩ (.int .i64 ((rd_T136 l0_4 x23_2).f3.f0))).setCell ⟨gb283, 4, none⟩ (.int .i64 ((rd_T136 l0_4 x23_2).f3.f1))).setCell ⟨gb283, 5, none⟩ (.int .i64 ((rd_T136 l0_4 x23_2).f3.f2))).heap[gb278]? = some (.cells #[.int .i64 a0_0, .int .i64 a0_1, .int .i64 a0_2, .int .i64 a0_3, .slice (some ad282) l0_4.length c0_4, .slice (some ad280) l0_5.length c0_5] 55 (0, 0))) := ⟨by (with_reducible repeat (first | refine blk_drewN ?_ _ | refine blk_drew ?_ | refine blk_alloc ?_ _)); refine blk_far ?_ NB278_283.out _; (with_reducible repeat (first | refine blk_drewN ?_ _ | refine blk_drew ?_ | refine blk_alloc ?_ _)); refine blk_far ?_ NB278_283.out _; (with_reducible repeat (first | refine blk_drewN ?_ _ | refine blk_drew ?_ | refine blk_alloc ?_ _)); refine blk_far ?_ NB278_283.out _; (with_reducible repeat (first | refine blk_drewN ?_ _ | refine blk_drew ?_ | refine blk_alloc ?_ _)); refine blk_far ?_ NB278_283.out _; (with_reducible repeat (first | refine blk_drewN ?_ _ | refine blk_drew ?_ | refine blk_alloc ?_ _)); refine blk_far ?_ NB278_283.out _; (with_reducible repeat (first | refine blk_drewN ?_ _ | refine blk_drew ?_ | refine blk_alloc ?_ _)); refine blk_far ?_ NB278_283.out _; (with_reducible repeat (first | refine blk_drewN ?_ _ | refine blk_drew ?_ | refine blk_alloc ?_ _)); exact BK278.out⟩
                        have n1_ : Aside0 (((((((w51.setCell ⟨gb283, 0, none⟩ (.int .i64 ((rd_T136 l0_4 x23_2).f0))).setCell ⟨gb283, 1, none⟩ (.int .i64 ((rd_T136 l0_4 x23_2).f1))).setCell ⟨gb283, 2, none⟩ (.bool ((rd_T136 l0_4 x23_2).f2))).setCell ⟨gb283, 3, none⟩ (.int .i64 ((rd_T136 l0_4 x23_2).f3.f0))).setCell ⟨gb283, 4, none⟩ (.int .i64 ((rd_T136 l0_4 x23_2).f3.f1))).setCell ⟨gb283, 5, none⟩ (.int .i64 ((rd_T136 l0_4 x23_2).f3.f2))).heap[gb281]? = some (.cells #[.int .i64 ((rd_T134 l0_5 x23_2).f0), .int .i64 ((rd_T134 l0_5 x23_2).f1.f0), .int .i64 ((rd_T134 l0_5 x23_2).f1.f1.f0), .int .i64 ((rd_T134 l0_5 x23_2).f1.f1.f1), .int .i64 ((rd_T134 l0_5 x23_2).f1.f1.f2), .slice A280_5 ((rd_T134 l0_5 x23_2).f1.f2).length c280_5] 134 (0, 0))) := ⟨by (with_reducible repeat (first | refine blk_drewN ?_ _ | refine blk_drew ?_ | refine blk_alloc ?_ _)); refine blk_far ?_ NB281_283.out _; (with_reducible repeat (first | refine blk_drewN ?_ _ | refine blk_drew ?_ | refine blk_alloc ?_ _)); refine blk_far ?_ NB281_283.out _; (with_reducible repeat (first | refine blk_drewN ?_ _ | refine blk_drew ?_ | refine blk_alloc ?_ _)); refine blk_far ?_ NB281_283.out _; (with_reducible repeat (first | refine blk_drewN ?_ _ | refine blk_drew ?_ | refine blk_alloc ?_ _)); refine blk_far ?_ NB281_283.out _; (with_reducible repeat (first | refine blk_drewN ?_ _ | refine blk_drew ?_ | refine blk_alloc ?_ _)); refine blk_far ?_ NB281_283.out _; (with_reducible repeat (first | refine blk_drewN ?_ _ | refine blk_drew ?_ | refine blk_alloc ?_ _)); refine blk_far ?_ NB281_283.out _; (with_reducible repeat (first | refine blk_drewN ?_ _ | refine blk_drew ?_ | refine blk_alloc ?_ _)); exact BK281.out⟩
                        have n2_ : Aside0 (((((((w51.setCell ⟨gb283, 0, none⟩ (.int .i64 ((rd_T136 l0_4 x23_2).f0))).setCell ⟨gb283, 1, none⟩ (.int .i64 ((rd_T136 l0_4 x23_2).f1))).setCell ⟨gb283, 2, none⟩ (.bool ((rd_T136 l0_4 x23_2).f2))).setCell ⟨gb283, 3, none⟩ (.int .i64 ((rd_T136 l0_4 x23_2).f3.f0))).setCell ⟨gb283, 4, none⟩ (.int .i64 ((rd_T136 l0_4 x23_2).f3.f1))).setCell ⟨gb283, 5, none⟩ (.int .i64 ((rd_T136 l0_4 x23_2).f3.f2))).heap[gb283]? = some (.cells #[.int .i64 ((rd_T136 l0_4 x23_2).f0), .int .i64 ((rd_T136 l0_4 x23_2).f1), .bool ((rd_T136 l0_4 x23_2).f2), .int .i64 ((rd_T136 l0_4 x23_2).f3.f0), .int .i64 ((rd_T136 l0_4 x23_2).f3.f1), .int .i64 ((rd_T136 l0_4 x23_2).f3.f2)] 136 (0, 0))) := ⟨by (with_reducible repeat (first | refine blk_drewN ?_ _ | refine blk_drew ?_ | refine blk_alloc ?_ _)); refine blk_put (cs := #[.int .i64 ((rd_T136 l0_4 x23_2).f0), .int .i64 ((rd_T136 l0_4 x23_2).f1), .bool ((rd_T136 l0_4 x23_2).f2), .int .i64 ((rd_T136 l0_4 x23_2).f3.f0), .int .i64 ((rd_T136 l0_4 x23_2).f3.f1), .int .i64 0]) ?_ 5 _ rfl; (with_reducible repeat (first | refine blk_drewN ?_ _ | refine blk_drew ?_ | refine blk_alloc ?_ _)); refine blk_put (cs := #[.int .i64 ((rd_T136 l0_4 x23_2).f0), .int .i64 ((rd_T136 l0_4 x23_2).f1), .bool ((rd_T136 l0_4 x23_2).f2), .int .i64 ((rd_T136 l0_4 x23_2).f3.f0), .int .i64 0, .int .i64 0]) ?_ 4 _ rfl; (with_reducible repeat (first | refine blk_drewN ?_ _ | refine blk_drew ?_ | refine blk_alloc ?_ _)); refine blk_put (cs := #[.int .i64 ((rd_T136 l0_4 x23_2).f0), .int .i64 ((rd_T136 l0_4 x23_2).f1), .bool ((rd_T136 l0_4 x23_2).f2), .int .i64 0, .int .i64 0, .int .i64 0]) ?_ 3 _ rfl; (with_reducible repeat (first | refine blk_drewN ?_ _ | refine blk_drew ?_ | refine blk_alloc ?_ _)); refine blk_put (cs := #[.int .i64 ((rd_T136 l0_4 x23_2).f0), .int .i64 ((rd_T136 l0_4 x23_2).f1), .bool false, .int .i64 0, .int .i64 0, .int .i64 0]) ?_ 2 _ rfl; (with_reducible repeat (first | refine blk_drewN ?_ _ | refine blk_drew ?_ | refine blk_alloc ?_ _)); refine blk_put (cs := #[.int .i64 ((rd_T136 l0_4 x23_2).f0), .int .i64 0, .bool false, .int .i64 0, .int .i64 0, .int .i64 0]) ?_ 1 _ rfl; (with_reducible repeat (first | refine blk_drewN ?_ _ | refine blk_drew ?_ | refine blk_alloc ?_ _)); refine blk_put (cs := #[.int .i64 0, .int .i64 0, .bool false, .int .i64 0, .int .i64 0, .int .i64 0]) ?_ 0 _ rfl; (with_reducible repeat (first | refine blk_drewN ?_ _ | refine blk_drew ?_ | refine blk_alloc ?_ _)); exact BK283.out⟩
                        have n3_ : Aside0 (Below w.heap.size w ((((((w51.setCell ⟨gb283, 0, none⟩ (.int .i64 ((rd_T136 l0_4 x23_2).f0))).setCell ⟨gb283, 1, none⟩ (.int .i64 ((rd_T136 l0_4 x23_2).f1))).setCell ⟨gb283, 2, none⟩ (.bool ((rd_T136 l0_4 x23_2).f2))).setCell ⟨gb283, 3, none⟩ (.int .i64 ((rd_T136 l0_4 x23_2).f3.f0))).setCell ⟨gb283, 4, none⟩ (.int .i64 ((rd_T136 l0_4 x23_2).f3.f1))).setCell ⟨gb283, 5, none⟩ (.int .i64 ((rd_T136 l0_4 x23_2).f3.f2)))) := ⟨by repeat (first | (with_reducible first | exact HB.out | apply below_alloc | apply pw_below_drewN | apply below_drew1 | refine below_set ?_ GE278.out | refine below_set ?_ GE281.out | refine below_set ?_ GE283.out) | exact HB.out)⟩
                        (try clear BK278)
                        (try clear BK281)
                        (try clear BK283)
                        (try clear HB)
                        generalize ((((((w51.setCell ⟨gb283, 0, none⟩ (.int .i64 ((rd_T136 l0_4 x23_2).f0))).setCell ⟨gb283, 1, none⟩ (.int .i64 ((rd_T136 l0_4 x23_2).f1))).setCell ⟨gb283, 2, none⟩ (.bool ((rd_T136 l0_4 x23_2).f2))).setCell ⟨gb283, 3, none⟩ (.int .i64 ((rd_T136 l0_4 x23_2).f3.f0))).setCell ⟨gb283, 4, none⟩ (.int .i64 ((rd_T136 l0_4 x23_2).f3.f1))).setCell ⟨gb283, 5, none⟩ (.int .i64 ((rd_T136 l0_4 x23_2).f3.f2))) = w55 at n0_ n1_ n2_ n3_ ⊢
                        have BK278 := n0_
                        have BK281 := n1_
                        have BK283 := n2_
                        have HB := n3_
                        clear n0_ n1_ n2_ n3_
                        have n0_ := Aside0.mk (blk_drew BK278.out)
                        have n1_ := Aside0.mk (blk_drew BK281.out)
                        have n2_ := Aside0.mk (blk_drew BK283.out)
                        have n3_ := Aside0.mk (below_drew1 HB.out)
                        clear BK278
                        clear BK281
                        clear BK283
                        clear HB
                        have BK278 := n0_
                        have BK281 := n1_
                        have BK283 := n2_
                        have HB := n3_
                        clear n0_ n1_ n2_ n3_
                        refine start_ (n := 28) (S := fun w' => w'.cell? ⟨gb281, 0, none⟩ = some (.int .i64 ((rd_T134 l0_5 x23_2).f0)) ∧ w'.cell? ⟨gb281, 1, none⟩ = some (.int .i64 ((rd_T134 l0_5 x23_2).f1.f0)) ∧ w'.cell? ⟨gb281, 2, none⟩ = some (.int .i64 ((rd_T134 l0_5 x23_2).f1.f1.f0)) ∧ w'.cell? ⟨gb281, 3, none⟩ = some (.int .i64 ((rd_T134 l0_5 x23_2).f1.f1.f1)) ∧ w'.cell? ⟨gb281, 4, none⟩ = some (.int .i64 ((rd_T134 l0_5 x23_2).f1.f1.f2)) ∧ w'.cell? ⟨gb281, 5, none⟩ = some (.slice A280_5 ((rd_T134 l0_5 x23_2).f1.f2).length c280_5) ∧ w'.cell? ⟨gb283, 0, none⟩ = some (.int .i64 ((rd_T136 l0_4 x23_2).f0)) ∧ w'.cell? ⟨gb283, 1, none⟩ = some (.int .i64 ((rd_T136 l0_4 x23_2).f1)) ∧ w'.cell? ⟨gb283, 2, none⟩ = some (.bool ((rd_T136 l0_4 x23_2).f2)) ∧ w'.cell? ⟨gb283, 3, none⟩ = some (.int .i64 ((rd_T136 l0_4 x23_2).f3.f0)) ∧ w'.cell? ⟨gb283, 4, none⟩ = some (.int .i64 ((rd_T136 l0_4 x23_2).f3.f1)) ∧ w'.cell? ⟨gb283, 5, none⟩ = some (.int .i64 ((rd_T136 l0_4 x23_2).f3.f2))) (ds := []) (bz 28 0) (by kernel_rfl) rfl (by kernel_rfl) ⟨(blk_cell BK281.out 0).trans rfl, (blk_cell BK281.out 1).trans rfl, (blk_cell BK281.out 2).trans rfl, (blk_cell BK281.out 3).trans rfl, (blk_cell BK281.out 4).trans rfl, (blk_cell BK281.out 5).trans rfl, (blk_cell BK283.out 0).trans rfl, (blk_cell BK283.out 1).trans rfl, (blk_cell BK283.out 2).trans rfl, (blk_cell BK283.out 3).trans rfl, (blk_cell BK283.out 4).trans rfl, (blk_cell BK283.out 5).trans rfl⟩ (fun hHeld => ?_); refine with_tabW impl_TreeOk.tab7 impl_TreeOk.bits7 (fun HT_ HW_ => ?_)
                        generalize w55.drew = w56 at BK278 BK281 BK283 HB hHeld ⊢
                        refine px_ (i := 0) (N := some 34) (bz 28 1) (any_of HT_.out (by kernel_rfl)) ?_
                        refine px_ (i := 2) (N := some 36) (bz 28 5) (any_of HT_.out (by kernel_rfl)) ?_
                        refine tx_ (i := 1) (N := some 35) (bz 28 7) rfl rfl (take_ofW HT_.out HW_.out (by kernel_rfl)) hHeld Z92 ?_
                        refine tx_ (i := 3) (N := some 37) (bz 28 15) rfl rfl (take_ofW HT_.out HW_.out (by kernel_rfl)) hHeld Z92 ?_
                        refine px_ (i := 4) (N := some 38) (bz 28 31) (any_of HT_.out (by kernel_rfl)) ?_
                        refine px_ (i := 5) (N := some 39) (bz 28 63) (any_of HT_.out (by kernel_rfl)) ?_
                        refine px_ (i := 6) (N := some 40) (bz 28 127) (any_of HT_.out (by kernel_rfl)) ?_
                        refine tx_ (i := 7) (N := some 41) (bz 28 255) rfl rfl (take_ofW HT_.out HW_.out (by kernel_rfl)) hHeld Z92 ?_
                        refine one_ (i := 8) (N := some 42) (bz 28 511) rfl rfl (one_of HT_.out (by kernel_rfl)) (by decide) (fun K hK => ?_)
                        refine goes_ Try.func117 (by kernel_rfl) rfl #[.agg #[.int .i64 ((rd_T134 l0_5 x23_2).f1.f0), .int .i64 ((rd_T134 l0_5 x23_2).f1.f1.f0), .int .i64 ((rd_T134 l0_5 x23_2).f1.f1.f1), .int .i64 ((rd_T134 l0_5 x23_2).f1.f1.f2), .slice A280_5 ((rd_T134 l0_5 x23_2).f1.f2).length c280_5]] (by rfl) rfl rfl Z41 ?_
                        with_reducible refine (impl_FairOk.calls k2 ((rd_T134 l0_5 x23_2).f1.f0) ((rd_T134 l0_5 x23_2).f1.f1.f0) ((rd_T134 l0_5 x23_2).f1.f1.f1) ((rd_T134 l0_5 x23_2).f1.f1.f2) _ _ ((rd_T134 l0_5 x23_2).f1.f2) false _ ?side1 ?side2 A18.out).mono ?_
                        (case side1 => repeat (first | exact (Kd.C_below HR280_5.out HB.out) | (with_reducible refine Kd.C_alloc ?_ _) | (with_reducible refine Kd.C_drewN ?_ _) | (with_reducible refine Kd.C_drew ?_)))
                        (case side2 => exact HC280_5.out)
                        rintro e w57 ⟨rfl, hb⟩
                        refine ⟨_, rfl, ?_⟩
                        have n0_ := Aside0.mk (blk_below (g := gb278) (o := .cells #[.int .i64 a0_0, .int .i64 a0_1, .int .i64 a0_2, .int .i64 a0_3, .slice (some ad282) l0_4.length c0_4, .slice (some ad280) l0_5.length c0_5] 55 (0, 0)) Z81 hb)
                        have n1_ := Aside0.mk (blk_below (g := gb281) (o := .cells #[.int .i64 ((rd_T134 l0_5 x23_2).f0), .int .i64 ((rd_T134 l0_5 x23_2).f1.f0), .int .i64 ((rd_T134 l0_5 x23_2).f1.f1.f0), .int .i64 ((rd_T134 l0_5 x23_2).f1.f1.f1), .int .i64 ((rd_T134 l0_5 x23_2).f1.f1.f2), .slice A280_5 ((rd_T134 l0_5 x23_2).f1.f2).length c280_5] 134 (0, 0)) Z82 hb)
                        have n2_ := Aside0.mk (blk_below (g := gb283) (o := .cells #[.int .i64 ((rd_T136 l0_4 x23_2).f0), .int .i64 ((rd_T136 l0_4 x23_2).f1), .bool ((rd_T136 l0_4 x23_2).f2), .int .i64 ((rd_T136 l0_4 x23_2).f3.f0), .int .i64 ((rd_T136 l0_4 x23_2).f3.f1), .int .i64 ((rd_T136 l0_4 x23_2).f3.f2)] 136 (0, 0)) Z83 hb)
                        have n3_ := Aside0.mk (below_step Z5 hb)
                        clear BK278
                        clear BK281
                        clear BK283
                        clear HB
                        have BK278 := n0_
                        have BK281 := n1_
                        have BK283 := n2_
                        have HB := n3_
                        clear n0_ n1_ n2_ n3_
                        (try clear hb)
                        (try clear hb2)
                        (try clear hk)
                        (try clear hi)
                        refine hK.out _ _ ⟨(blk_cell BK281.out 0).trans rfl, (blk_cell BK281.out 1).trans rfl, (blk_cell BK281.out 2).trans rfl, (blk_cell BK281.out 3).trans rfl, (blk_cell BK281.out 4).trans rfl, (blk_cell BK281.out 5).trans rfl, (blk_cell BK283.out 0).trans rfl, (blk_cell BK283.out 1).trans rfl, (blk_cell BK283.out 2).trans rfl, (blk_cell BK283.out 3).trans rfl, (blk_cell BK283.out 4).trans rfl, (blk_cell BK283.out 5).trans rfl⟩ (fun hHeld => ?_)
                        clear hK K
                        refine nx_ (N := some 42) ?_
                        refine px_ (i := 9) (N := some 43) (bz 28 1023) (any_of HT_.out (by kernel_rfl)) ?_
                        refine px_ (i := 10) (N := some 44) (bz 28 2047) (any_of HT_.out (by kernel_rfl)) ?_
                        refine px_ (i := 11) (N := some 45) (bz 28 4095) (any_of HT_.out (by kernel_rfl)) ?_
                        refine ox_ (i := 12) (N := some 46) (bz 28 8191) (any_of HT_.out (by kernel_rfl)) ?_
                        refine ox_ (i := 13) (N := some 47) (bz 28 16383) (any_of HT_.out (by kernel_rfl)) ?_
                        refine ox_ (i := 14) (N := some 48) (bz 28 32767) (any_of HT_.out (by kernel_rfl)) ?_
                        refine ox_ (i := 15) (N := some 49) (bz 28 65535) (any_of HT_.out (by kernel_rfl)) ?_
                        refine ox_ (i := 16) (N := some 50) (bz 28 131071) (any_of HT_.out (by kernel_rfl)) ?_
                        refine ox_ (i := 17) (N := some 51) (bz 28 262143) (any_of HT_.out (by kernel_rfl)) ?_
                        refine ox_ (i := 18) (N := some 52) (bz 28 524287) (any_of HT_.out (by kernel_rfl)) ?_
                        refine px_ (i := 19) (N := some 53) (bz 28 1048575) (any_of HT_.out (by kernel_rfl)) ?_
                        refine px_ (i := 20) (N := some 54) (bz 28 2097151) (any_of HT_.out (by kernel_rfl)) ?_
                        refine ox_ (i := 21) (N := some 55) (bz 28 4194303) (any_of HT_.out (by kernel_rfl)) ?_
                        refine ox_ (i := 22) (N := some 56) (bz 28 8388607) (any_of HT_.out (by kernel_rfl)) ?_
                        refine ox_ (i := 23) (N := some 57) (bz 28 16777215) (any_of HT_.out (by kernel_rfl)) ?_
                        refine ox_ (i := 24) (N := some 58) (bz 28 33554431) (any_of HT_.out (by kernel_rfl)) ?_
                        refine ox_ (i := 25) (N := some 59) (bz 28 67108863) (any_of HT_.out (by kernel_rfl)) ?_
                        refine ox_ (i := 26) (N := some 60) (bz 28 134217727) (any_of HT_.out (by kernel_rfl)) ?_
                        refine px_ (i := 27) (N := some 61) (bz 28 268435455) (any_of HT_.out (by kernel_rfl)) ?_
                        refine done_ (done_of HT_.out (by kernel_rfl)) ?_
                        try go_wp2
                        go_ret
                        exact ⟨by first | rfl | (simp [errW_none, errW_some] <;> rfl) | (simp [*, errW_none, errW_some] <;> rfl), by repeat (first | (with_reducible first | exact HB.out | apply below_alloc | apply pw_below_drewN | apply below_drew1 | refine below_set ?_ GE278.out | refine below_set ?_ GE281.out | refine below_set ?_ GE283.out) | exact HB.out)⟩
                    · rw [if_neg c17] at H
                      have c17b0 : (((rd_T134 l0_5 x23_2).f0) == ((rd_T136 l0_4 x23_2).f0)) = false := beq_eq_false_iff_ne.mpr c17
                      have c17b1 : (((rd_T134 l0_5 x23_2).f0) != ((rd_T136 l0_4 x23_2).f0)) = true := bne_iff_ne.mpr c17
                      obtain rfl := Option.some.inj H
                      have p280 : 0 ≤ (x23_2 : Int) := of_decide_eq_true Z97
                      have q280 : x23_2 < (l0_5.length : Int) := of_decide_eq_true Z97
                      obtain ⟨ad280, A280_5, c280_5, e280, hx280_0, hx280_1, hx280_2, hx280_3, hx280_4, hx280_5, hl280_5, hi280_5⟩ := at_T134 HR0_5.out x23_2 p280 q280
                      cases e280
                      replace hx280_0 := (HB.out.cell (World.block_lt_of_cell? w _ hx280_0)).trans hx280_0
                      replace hx280_1 := (HB.out.cell (World.block_lt_of_cell? w _ hx280_1)).trans hx280_1
                      replace hx280_2 := (HB.out.cell (World.block_lt_of_cell? w _ hx280_2)).trans hx280_2
                      replace hx280_3 := (HB.out.cell (World.block_lt_of_cell? w _ hx280_3)).trans hx280_3
                      replace hx280_4 := (HB.out.cell (World.block_lt_of_cell? w _ hx280_4)).trans hx280_4
                      replace hx280_5 := (HB.out.cell (World.block_lt_of_cell? w _ hx280_5)).trans hx280_5
                      have HR280_5 := Aside0.mk hi280_5
                      have HC280_5 := Aside0.mk hl280_5
                      clear hi280_5 hl280_5
                      replace p280 := eq_true p280
                      replace q280 := eq_true q280
                      try go_wp2_with (first | ((with_reducible refine gate_dst (N := 4) rfl ?_); (try (refine gate_guard (by rfl) ?_; dsimp only)); refine box_event ?hg (N := 4) ?hd (cs := #[.int .i64 0, .int .i64 0, .int .i64 0, .int .i64 0, .int .i64 0, .slice none 0 0]) (t := 134) ?hr ?_; (case hd => rfl); (case hg => rfl); (case hr => first | (go_simp; done) | (go_simp; rfl)); intro gb281 hg w58 hbox hb; have n0_ := Aside0.mk (blk_below (g := gb278) (o := .cells #[.int .i64 a0_0, .int .i64 a0_1, .int .i64 a0_2, .int .i64 a0_3, .slice A0_4 l0_4.length c0_4, .slice (some ad280) l0_5.length c0_5] 55 (0, 0)) Z81 hb); have n1_ := Aside0.mk (below_step Z39 hb); have n2_ := Aside0.mk (hbox); have n3_ := Aside0.mk ((by rw [hg]; exact (below_size Z39) : w.heap.size ≤ gb281)); have n4_ := Aside0.mk ((by rw [hg]; exact (below_size Z39) : w.heap.size ≤ gb281)); have n5_ := Aside0.mk ((by rw [hg]; exact Nat.ne_of_lt (blk_lt (g := gb278) (o := .cells #[.int .i64 a0_0, .int .i64 a0_1, .int .i64 a0_2, .int .i64 a0_3, .slice A0_4 l0_4.length c0_4, .slice (some ad280) l0_5.length c0_5] 55 (0, 0)) Z81) : gb278 ≠ gb281)); have n6_ := Aside0.mk ((by rw [hg]; exact Nat.ne_of_gt (blk_lt (g := gb278) (o := .cells #[.int .i64 a0_0, .int .i64 a0_1, .int .i64 a0_2, .int .i64 a0_3, .slice A0_4 l0_4.length c0_4, .slice (some ad280) l0_5.length c0_5] 55 (0, 0)) Z81) : gb281 ≠ gb278)); clear BK278; clear HB; have BK278 := n0_; have HB := n1_; have BK281 := n2_; have GW281 := n3_; have GE281 := n4_; have NB278_281 := n5_; have NB281_278 := n6_; clear n0_ n1_ n2_ n3_ n4_ n5_ n6_; clear hb hbox hg; (try have hnb59 := NB281_278.out); (try have hnc59 := NB278_281.out); have hcz60_0 : w58.cell? ⟨gb281, 0, none⟩ = some (.int .i64 0) := (blk_cell BK281.out 0).trans rfl; have hcz60_1 : w58.cell? ⟨gb281, 1, none⟩ = some (.int .i64 0) := (blk_cell BK281.out 1).trans rfl; have hcz60_2 : w58.cell? ⟨gb281, 2, none⟩ = some (.int .i64 0) := (blk_cell BK281.out 2).trans rfl; have hcz60_3 : w58.cell? ⟨gb281, 3, none⟩ = some (.int .i64 0) := (blk_cell BK281.out 3).trans rfl; have hcz60_4 : w58.cell? ⟨gb281, 4, none⟩ = some (.int .i64 0) := (blk_cell BK281.out 4).trans rfl; have hcz60_5 : w58.cell? ⟨gb281, 5, none⟩ = some (.slice none 0 0) := (blk_cell BK281.out 5).trans rfl; have hfz60_0 := blk_frozen BK281.out 0; have hfz60_1 := blk_frozen BK281.out 1; have hfz60_2 := blk_frozen BK281.out 2; have hfz60_3 := blk_frozen BK281.out 3; have hfz60_4 := blk_frozen BK281.out 4; have hfz60_5 := blk_frozen BK281.out 5; have hcz61_0 : w58.cell? ⟨gb278, 0, none⟩ = some (.int .i64 a0_0) := (blk_cell BK278.out 0).trans rfl; have hcz61_1 : w58.cell? ⟨gb278, 1, none⟩ = some (.int .i64 a0_1) := (blk_cell BK278.out 1).trans rfl; have hcz61_2 : w58.cell? ⟨gb278, 2, none⟩ = some (.int .i64 a0_2) := (blk_cell BK278.out 2).trans rfl; have hcz61_3 : w58.cell? ⟨gb278, 3, none⟩ = some (.int .i64 a0_3) := (blk_cell BK278.out 3).trans rfl; have hcz61_4 : w58.cell? ⟨gb278, 4, none⟩ = some (.slice A0_4 l0_4.length c0_4) := (blk_cell BK278.out 4).trans rfl; have hcz61_5 : w58.cell? ⟨gb278, 5, none⟩ = some (.slice (some ad280) l0_5.length c0_5) := (blk_cell BK278.out 5).trans rfl; have hfz61_0 := blk_frozen BK278.out 0; have hfz61_1 := blk_frozen BK278.out 1; have hfz61_2 := blk_frozen BK278.out 2; have hfz61_3 := blk_frozen BK278.out 3; have hfz61_4 := blk_frozen BK278.out 4; have hfz61_5 := blk_frozen BK278.out 5; have p282 : 0 ≤ (x23_2 : Int) := of_decide_eq_true Z97; have q282 : x23_2 < (l0_4.length : Int) := of_decide_eq_true Z97; obtain ⟨ad282, e282, hx282_0, hx282_1, hx282_2, hx282_3, hx282_4, hx282_5⟩ := at_T136 HR0_4.out x23_2 p282 q282; cases e282; have hn282_0 : ad282.block ≠ gb281 := Nat.ne_of_lt (Nat.lt_of_lt_of_le Z93 GW281.out); have hn282_1 : ad282.block ≠ gb281 := Nat.ne_of_lt (Nat.lt_of_lt_of_le Z93 GW281.out); have hn282_2 : ad282.block ≠ gb281 := Nat.ne_of_lt (Nat.lt_of_lt_of_le Z93 GW281.out); have hn282_3 : ad282.block ≠ gb281 := Nat.ne_of_lt (Nat.lt_of_lt_of_le Z93 GW281.out); have hn282_4 : ad282.block ≠ gb281 := Nat.ne_of_lt (Nat.lt_of_lt_of_le Z93 GW281.out); have hn282_5 : ad282.block ≠ gb281 := Nat.ne_of_lt (Nat.lt_of_lt_of_le Z93 GW281.out); replace hx282_0 := (HB.out.cell (World.block_lt_of_cell? w _ hx282_0)).trans hx282_0; replace hx282_1 := (HB.out.cell (World.block_lt_of_cell? w _ hx282_1)).trans hx282_1; replace hx282_2 := (HB.out.cell (World.block_lt_of_cell? w _ hx282_2)).trans hx282_2; replace hx282_3 := (HB.out.cell (World.block_lt_of_cell? w _ hx282_3)).trans hx282_3; replace hx282_4 := (HB.out.cell (World.block_lt_of_cell? w _ hx282_4)).trans hx282_4; replace hx282_5 := (HB.out.cell (World.block_lt_of_cell? w _ hx282_5)).trans hx282_5; replace hx282_0 := (cell_far (p := ⟨gb281, 0, none⟩) Z43 (.int .i64 ((rd_T134 l0_5 x23_2).f0))).trans hx282_0; replace hx282_1 := (cell_far (p := ⟨gb281, 0, none⟩) Z43 (.int .i64 ((rd_T134 l0_5 x23_2).f0))).trans hx282_1; replace hx282_2 := (cell_far (p := ⟨gb281, 0, none⟩) Z43 (.int .i64 ((rd_T134 l0_5 x23_2).f0))).trans hx282_2; replace hx282_3 := (cell_far (p := ⟨gb281, 0, none⟩) Z43 (.int .i64 ((rd_T134 l0_5 x23_2).f0))).trans hx282_3; replace hx282_4 := (cell_far (p := ⟨gb281, 0, none⟩) Z43 (.int .i64 ((rd_T134 l0_5 x23_2).f0))).trans hx282_4; replace hx282_5 := (cell_far (p := ⟨gb281, 0, none⟩) Z43 (.int .i64 ((rd_T134 l0_5 x23_2).f0))).trans hx282_5; replace hx282_0 := (cell_far (p := ⟨gb281, 1, none⟩) Z44 (.int .i64 ((rd_T134 l0_5 x23_2).f1.f0))).trans hx282_0; replace hx282_1 := (cell_far (p := ⟨gb281, 1, none⟩) Z44 (.int .i64 ((rd_T134 l0_5 x23_2).f1.f0))).trans hx282_1; replace hx282_2 := (cell_far (p := ⟨gb281, 1, none⟩) Z44 (.int .i64 ((rd_T134 l0_5 x23_2).f1.f0))).trans hx282_2; replace hx282_3 := (cell_far (p := ⟨gb281, 1, none⟩) Z44 (.int .i64 ((rd_T134 l0_5 x23_2).f1.f0))).trans hx282_3; replace hx282_4 := (cell_far (p := ⟨gb281, 1, none⟩) Z44 (.int .i64 ((rd_T134 l0_5 x23_2).f1.f0))).trans hx282_4; replace hx282_5 := (cell_far (p := ⟨gb281, 1, none⟩) Z44 (.int .i64 ((rd_T134 l0_5 x23_2).f1.f0))).trans hx282_5; replace hx282_0 := (cell_far (p := ⟨gb281, 2, none⟩) Z45 (.int .i64 ((rd_T134 l0_5 x23_2).f1.f1.f0))).trans hx282_0; replace hx282_1 := (cell_far (p := ⟨gb281, 2, none⟩) Z45 (.int .i64 ((rd_T134 l0_5 x23_2).f1.f1.f0))).trans hx282_1; replace hx282_2 := (cell_far (p := ⟨gb281, 2, none⟩) Z45 (.int .i64 ((rd_T134 l0_5 x23_2).f1.f1.f0))).trans hx282_2; replace hx282_3 := (cell_far (p := ⟨gb281, 2, none⟩) Z45 (.int .i64 ((rd_T134 l0_5 x23_2).f1.f1.f0))).trans hx282_3; replace hx282_4 := (cell_far (p := ⟨gb281, 2, none⟩) Z45 (.int .i64 ((rd_T134 l0_5 x23_2).f1.f1.f0))).trans hx282_4; replace hx282_5 := (cell_far (p := ⟨gb281, 2, none⟩) Z45 (.int .i64 ((rd_T134 l0_5 x23_2).f1.f1.f0))).trans hx282_5; replace hx282_0 := (cell_far (p := ⟨gb281, 3, none⟩) Z46 (.int .i64 ((rd_T134 l0_5 x23_2).f1.f1.f1))).trans hx282_0; replace hx282_1 := (cell_far (p := ⟨gb281, 3, none⟩) Z46 (.int .i64 ((rd_T134 l0_5 x23_2).f1.f1.f1))).trans hx282_1; replace hx282_2 := (cell_far (p := ⟨gb281, 3, none⟩) Z46 (.int .i64 ((rd_T134 l0_5 x23_2).f1.f1.f1))).trans hx282_2; replace hx282_3 := (cell_far (p := ⟨gb281, 3, none⟩) Z46 (.int .i64 ((rd_T134 l0_5 x23_2).f1.f1.f1))).trans hx282_3; replace hx282_4 := (cell_far (p := ⟨gb281, 3, none⟩) Z46 (.int .i64 ((rd_T134 l0_5 x23_2).f1.f1.f1))).trans hx282_4; replace hx282_5 := (cell_far (p := ⟨gb281, 3, none⟩) Z46 (.int .i64 ((rd_T134 l0_5 x23_2).f1.f1.f1))).trans hx282_5; replace hx282_0 := (cell_far (p := ⟨gb281, 4, none⟩) Z47 (.int .i64 ((rd_T134 l0_5 x23_2).f1.f1.f2))).trans hx282_0; replace hx282_1 := (cell_far (p := ⟨gb281, 4, none⟩) Z47 (.int .i64 ((rd_T134 l0_5 x23_2).f1.f1.f2))).trans hx282_1; replace hx282_2 := (cell_far (p := ⟨gb281, 4, none⟩) Z47 (.int .i64 ((rd_T134 l0_5 x23_2).f1.f1.f2))).trans hx282_2; replace hx282_3 := (cell_far (p := ⟨gb281, 4, none⟩) Z47 (.int .i64 ((rd_T134 l0_5 x23_2).f1.f1.f2))).trans hx282_3; replace hx282_4 := (cell_far (p := ⟨gb281, 4, none⟩) Z47 (.int .i64 ((rd_T134 l0_5 x23_2).f1.f1.f2))).trans hx282_4; replace hx282_5 := (cell_far (p := ⟨gb281, 4, none⟩) Z47 (.int .i64 ((rd_T134 l0_5 x23_2).f1.f1.f2))).trans hx282_5; replace hx282_0 := (cell_far (p := ⟨gb281, 5, none⟩) Z48 (.slice A280_5 ((rd_T134 l0_5 x23_2).f1.f2).length c280_5)).trans hx282_0; replace hx282_1 := (cell_far (p := ⟨gb281, 5, none⟩) Z48 (.slice A280_5 ((rd_T134 l0_5 x23_2).f1.f2).length c280_5)).trans hx282_1; replace hx282_2 := (cell_far (p := ⟨gb281, 5, none⟩) Z48 (.slice A280_5 ((rd_T134 l0_5 x23_2).f1.f2).length c280_5)).trans hx282_2; replace hx282_3 := (cell_far (p := ⟨gb281, 5, none⟩) Z48 (.slice A280_5 ((rd_T134 l0_5 x23_2).f1.f2).length c280_5)).trans hx282_3; replace hx282_4 := (cell_far (p := ⟨gb281, 5, none⟩) Z48 (.slice A280_5 ((rd_T134 l0_5 x23_2).f1.f2).length c280_5)).trans hx282_4; replace hx282_5 := (cell_far (p := ⟨gb281, 5, none⟩) Z48 (.slice A280_5 ((rd_T134 l0_5 x23_2).f1.f2).length c280_5)).trans hx282_5; clear hn282_0; clear hn282_1; clear hn282_2; clear hn282_3; clear hn282_4; clear hn282_5; replace p282 := eq_true p282; replace q282 := eq_true q282) | ((with_reducible refine gate_dst (N := 5) rfl ?_); (try (refine gate_guard (by rfl) ?_; dsimp only)); refine box_event ?hg (N := 5) ?hd (cs := #[.int .i64 0, .int .i64 0, .bool false, .int .i64 0, .int .i64 0, .int .i64 0]) (t := 136) ?hr ?_; (case hd => rfl); (case hg => rfl); (case hr => first | (go_simp; done) | (go_simp; rfl)); intro gb283 hg w62 hbox hb; have n0_ := Aside0.mk (blk_below (g := gb278) (o := .cells #[.int .i64 a0_0, .int .i64 a0_1, .int .i64 a0_2, .int .i64 a0_3, .slice (some ad282) l0_4.length c0_4, .slice (some ad280) l0_5.length c0_5] 55 (0, 0)) Z1 hb); have n1_ := Aside0.mk (blk_below (g := gb281) (o := .cells #[.int .i64 ((rd_T134 l0_5 x23_2).f0), .int .i64 ((rd_T134 l0_5 x23_2).f1.f0), .int .i64 ((rd_T134 l0_5 x23_2).f1.f1.f0), .int .i64 ((rd_T134 l0_5 x23_2).f1.f1.f1), .int .i64 ((rd_T134 l0_5 x23_2).f1.f1.f2), .slice A280_5 ((rd_T134 l0_5 x23_2).f1.f2).length c280_5] 134 (0, 0)) Z0 hb); have n2_ := Aside0.mk (below_step Z18 hb); have n3_ := Aside0.mk (hbox); have n4_ := Aside0.mk ((by rw [hg]; exact (below_size Z18) : w.heap.size ≤ gb283)); have n5_ := Aside0.mk ((by rw [hg]; exact (below_size Z18) : w.heap.size ≤ gb283)); have n6_ := Aside0.mk ((by rw [hg]; exact Nat.ne_of_lt (blk_lt (g := gb278) (o := .cells #[.int .i64 a0_0, .int .i64 a0_1, .int .i64 a0_2, .int .i64 a0_3, .slice (some ad282) l0_4.length c0_4, .slice (some ad280) l0_5.length c0_5] 55 (0, 0)) Z1) : gb278 ≠ gb283)); have n7_ := Aside0.mk ((by rw [hg]; exact Nat.ne_of_gt (blk_lt (g := gb278) (o := .cells #[.int .i64 a0_0, .int .i64 a0_1, .int .i64 a0_2, .int .i64 a0_3, .slice (some ad282) l0_4.length c0_4, .slice (some ad280) l0_5.length c0_5] 55 (0, 0)) Z1) : gb283 ≠ gb278)); have n8_ := Aside0.mk ((by rw [hg]; exact Nat.ne_of_lt (blk_lt (g := gb281) (o := .cells #[.int .i64 ((rd_T134 l0_5 x23_2).f0), .int .i64 ((rd_T134 l0_5 x23_2).f1.f0), .int .i64 ((rd_T134 l0_5 x23_2).f1.f1.f0), .int .i64 ((rd_T134 l0_5 x23_2).f1.f1.f1), .int .i64 ((rd_T134 l0_5 x23_2).f1.f1.f2), .slice A280_5 ((rd_T134 l0_5 x23_2).f1.f2).length c280_5] 134 (0, 0)) Z0) : gb281 ≠ gb283)); have n9_ := Aside0.mk ((by rw [hg]; exact Nat.ne_of_gt (blk_lt (g := gb281) (o := .cells #[.int .i64 ((rd_T134 l0_5 x23_2).f0), .int .i64 ((rd_T134 l0_5 x23_2).f1.f0), .int .i64 ((rd_T134 l0_5 x23_2).f1.f1.f0), .int .i64 ((rd_T134 l0_5 x23_2).f1.f1.f1), .int .i64 ((rd_T134 l0_5 x23_2).f1.f1.f2), .slice A280_5 ((rd_T134 l0_5 x23_2).f1.f2).length c280_5] 134 (0, 0)) Z0) : gb283 ≠ gb281)); clear BK278; clear BK281; clear HB; have BK278 := n0_; have BK281 := n1_; have HB := n2_; have BK283 := n3_; have GW283 := n4_; have GE283 := n5_; have NB278_283 := n6_; have NB283_278 := n7_; have NB281_283 := n8_; have NB283_281 := n9_; clear n0_ n1_ n2_ n3_ n4_ n5_ n6_ n7_ n8_ n9_; clear hb hbox hg; (try have hnb63 := NB283_278.out); (try have hnc63 := NB278_283.out); (try have hnb64 := NB283_281.out); (try have hnc64 := NB281_283.out); have hcz65_0 : w62.cell? ⟨gb283, 0, none⟩ = some (.int .i64 0) := (blk_cell BK283.out 0).trans rfl; have hcz65_1 : w62.cell? ⟨gb283, 1, none⟩ = some (.int .i64 0) := (blk_cell BK283.out 1).trans rfl; have hcz65_2 : w62.cell? ⟨gb283, 2, none⟩ = some (.bool false) := (blk_cell BK283.out 2).trans rfl; have hcz65_3 : w62.cell? ⟨gb283, 3, none⟩ = some (.int .i64 0) := (blk_cell BK283.out 3).trans rfl; have hcz65_4 : w62.cell? ⟨gb283, 4, none⟩ = some (.int .i64 0) := (blk_cell BK283.out 4).trans rfl; have hcz65_5 : w62.cell? ⟨gb283, 5, none⟩ = some (.int .i64 0) := (blk_cell BK283.out 5).trans rfl; have hfz65_0 := blk_frozen BK283.out 0; have hfz65_1 := blk_frozen BK283.out 1; have hfz65_2 := blk_frozen BK283.out 2; have hfz65_3 := blk_frozen BK283.out 3; have hfz65_4 := blk_frozen BK283.out 4; have hfz65_5 := blk_frozen BK283.out 5))
                      have n0_ : Aside0 (((((((w62.setCell ⟨gb283, 0, none⟩ (.int .i64 ((rd_T136 l0_4 x23_2).f0))).setCell ⟨gb283, 1, none⟩ (.int .i64 ((rd_T136 l0_4 x23_2).f1))).setCell ⟨gb283, 2, none⟩ (.bool ((rd_T136 l0_4 x23_2).f2))).setCell ⟨gb283, 3, none⟩ (.int .i64 ((rd_T136 l0_4 x23_2).f3.f0))).setCell ⟨gb283, 4, none⟩ (.int .i64 ((rd_T136 l0_4 x23_2).f3.f1))).setCell ⟨gb283, 5, none⟩ (.int .i64 ((rd_T136 l0_4 x23_2).f3.f2))).heap[gb278]? = some (.cells #[.int .i64 a0_0, .int .i64 a0_1, .int .i64 a0_2, .int .i64 a0_3, .slice (some ad282) l0_4.length c0_4, .slice (some ad280) l0_5.length c0_5] 55 (0, 0))) := ⟨by (with_reducible repeat (first | refine blk_drewN ?_ _ | refine blk_drew ?_ | refine blk_alloc ?_ _)); refine blk_far ?_ NB278_283.out _; (with_reducible repeat (first | refine blk_drewN ?_ _ | refine blk_drew ?_ | refine blk_alloc ?_ _)); refine blk_far ?_ NB278_283.out _; (with_reducible repeat (first | refine blk_drewN ?_ _ | refine blk_drew ?_ | refine blk_alloc ?_ _)); refine blk_far ?_ NB278_283.out _; (with_reducible repeat (first | refine blk_drewN ?_ _ | refine blk_drew ?_ | refine blk_alloc ?_ _)); refine blk_far ?_ NB278_283.out _; (with_reducible repeat (first | refine blk_drewN ?_ _ | refine blk_drew ?_ | refine blk_alloc ?_ _)); refine blk_far ?_ NB278_283.out _; (with_reducible repeat (first | refine blk_drewN ?_ _ | refine blk_drew ?_ | refine blk_alloc ?_ _)); refine blk_far ?_ NB278_283.out _; (with_reducible repeat (first | refine blk_drewN ?_ _ | refine blk_drew ?_ | refine blk_alloc ?_ _)); exact BK278.out⟩
                      have n1_ : Aside0 (((((((w62.setCell ⟨gb283, 0, none⟩ (.int .i64 ((rd_T136 l0_4 x23_2).f0))).setCell ⟨gb283, 1, none⟩ (.int .i64 ((rd_T136 l0_4 x23_2).f1))).setCell ⟨gb283, 2, none⟩ (.bool ((rd_T136 l0_4 x23_2).f2))).setCell ⟨gb283, 3, none⟩ (.int .i64 ((rd_T136 l0_4 x23_2).f3.f0))).setCell ⟨gb283, 4, none⟩ (.int .i64 ((rd_T136 l0_4 x23_2).f3.f1))).setCell ⟨gb283, 5, none⟩ (.int .i64 ((rd_T136 l0_4 x23_2).f3.f2))).heap[gb281]? = some (.cells #[.int .i64 ((rd_T134 l0_5 x23_2).f0), .int .i64 ((rd_T134 l0_5 x23_2).f1.f0), .int .i64 ((rd_T134 l0_5 x23_2).f1.f1.f0), .int .i64 ((rd_T134 l0_5 x23_2).f1.f1.f1), .int .i64 ((rd_T134 l0_5 x23_2).f1.f1.f2), .slice A280_5 ((rd_T134 l0_5 x23_2).f1.f2).length c280_5] 134 (0, 0))) := ⟨by (with_reducible repeat (first | refine blk_drewN ?_ _ | refine blk_drew ?_ | refine blk_alloc ?_ _)); refine blk_far ?_ NB281_283.out _; (with_reducible repeat (first | refine blk_drewN ?_ _ | refine blk_drew ?_ | refine blk_alloc ?_ _)); refine blk_far ?_ NB281_283.out _; (with_reducible repeat (first | refine blk_drewN ?_ _ | refine blk_drew ?_ | refine blk_alloc ?_ _)); refine blk_far ?_ NB281_283.out _; (with_reducible repeat (first | refine blk_drewN ?_ _ | refine blk_drew ?_ | refine blk_alloc ?_ _)); refine blk_far ?_ NB281_283.out _; (with_reducible repeat (first | refine blk_drewN ?_ _ | refine blk_drew ?_ | refine blk_alloc ?_ _)); refine blk_far ?_ NB281_283.out _; (with_reducible repeat (first | refine blk_drewN ?_ _ | refine blk_drew ?_ | refine blk_alloc ?_ _)); refine blk_far ?_ NB281_283.out _; (with_reducible repeat (first | refine blk_drewN ?_ _ | refine blk_drew ?_ | refine blk_alloc ?_ _)); exact BK281.out⟩
                      have n2_ : Aside0 (((((((w62.setCell ⟨gb283, 0, none⟩ (.int .i64 ((rd_T136 l0_4 x23_2).f0))).setCell ⟨gb283, 1, none⟩ (.int .i64 ((rd_T136 l0_4 x23_2).f1))).setCell ⟨gb283, 2, none⟩ (.bool ((rd_T136 l0_4 x23_2).f2))).setCell ⟨gb283, 3, none⟩ (.int .i64 ((rd_T136 l0_4 x23_2).f3.f0))).setCell ⟨gb283, 4, none⟩ (.int .i64 ((rd_T136 l0_4 x23_2).f3.f1))).setCell ⟨gb283, 5, none⟩ (.int .i64 ((rd_T136 l0_4 x23_2).f3.f2))).heap[gb283]? = some (.cells #[.int .i64 ((rd_T136 l0_4 x23_2).f0), .int .i64 ((rd_T136 l0_4 x23_2).f1), .bool ((rd_T136 l0_4 x23_2).f2), .int .i64 ((rd_T136 l0_4 x23_2).f3.f0), .int .i64 ((rd_T136 l0_4 x23_2).f3.f1), .int .i64 ((rd_T136 l0_4 x23_2).f3.f2)] 136 (0, 0))) := ⟨by (with_reducible repeat (first | refine blk_drewN ?_ _ | refine blk_drew ?_ | refine blk_alloc ?_ _)); refine blk_put (cs := #[.int .i64 ((rd_T136 l0_4 x23_2).f0), .int .i64 ((rd_T136 l0_4 x23_2).f1), .bool ((rd_T136 l0_4 x23_2).f2), .int .i64 ((rd_T136 l0_4 x23_2).f3.f0), .int .i64 ((rd_T136 l0_4 x23_2).f3.f1), .int .i64 0]) ?_ 5 _ rfl; (with_reducible repeat (first | refine blk_drewN ?_ _ | refine blk_drew ?_ | refine blk_alloc ?_ _)); refine blk_put (cs := #[.int .i64 ((rd_T136 l0_4 x23_2).f0), .int .i64 ((rd_T136 l0_4 x23_2).f1), .bool ((rd_T136 l0_4 x23_2).f2), .int .i64 ((rd_T136 l0_4 x23_2).f3.f0), .int .i64 0, .int .i64 0]) ?_ 4 _ rfl; (with_reducible repeat (first | refine blk_drewN ?_ _ | refine blk_drew ?_ | refine blk_alloc ?_ _)); refine blk_put (cs := #[.int .i64 ((rd_T136 l0_4 x23_2).f0), .int .i64 ((rd_T136 l0_4 x23_2).f1), .bool ((rd_T136 l0_4 x23_2).f2), .int .i64 0, .int .i64 0, .int .i64 0]) ?_ 3 _ rfl; (with_reducible repeat (first | refine blk_drewN ?_ _ | refine blk_drew ?_ | refine blk_alloc ?_ _)); refine blk_put (cs := #[.int .i64 ((rd_T136 l0_4 x23_2).f0), .int .i64 ((rd_T136 l0_4 x23_2).f1), .bool false, .int .i64 0, .int .i64 0, .int .i64 0]) ?_ 2 _ rfl; (with_reducible repeat (first | refine blk_drewN ?_ _ | refine blk_drew ?_ | refine blk_alloc ?_ _)); refine blk_put (cs := #[.int .i64 ((rd_T136 l0_4 x23_2).f0), .int .i64 0, .bool false, .int .i64 0, .int .i64 0, .int .i64 0]) ?_ 1 _ rfl; (with_reducible repeat (first | refine blk_drewN ?_ _ | refine blk_drew ?_ | refine blk_alloc ?_ _)); refine blk_put (cs := #[.int .i64 0, .int .i64 0, .bool false, .int .i64 0, .int .i64 0, .int .i64 0]) ?_ 0 _ rfl; (with_reducible repeat (first | refine blk_drewN ?_ _ | refine blk_drew ?_ | refine blk_alloc ?_ _)); exact BK283.out⟩
                      have n3_ : Aside0 (Below w.heap.size w ((((((w62.setCell ⟨gb283, 0, none⟩ (.int .i64 ((rd_T136 l0_4 x23_2).f0))).setCell ⟨gb283, 1, none⟩ (.int .i64 ((rd_T136 l0_4 x23_2).f1))).setCell ⟨gb283, 2, none⟩ (.bool ((rd_T136 l0_4 x23_2).f2))).setCell ⟨gb283, 3, none⟩ (.int .i64 ((rd_T136 l0_4 x23_2).f3.f0))).setCell ⟨gb283, 4, none⟩ (.int .i64 ((rd_T136 l0_4 x23_2).f3.f1))).setCell ⟨gb283, 5, none⟩ (.int .i64 ((rd_T136 l0_4 x23_2).f3.f2)))) := ⟨by repeat (first | (with_reducible first | exact HB.out | apply below_alloc | apply pw_below_drewN | apply below_drew1 | refine below_set ?_ GE278.out | refine below_set ?_ GE281.out | refine below_set ?_ GE283.out) | exact HB.out)⟩
                      (try clear BK278)
                      (try clear BK281)
                      (try clear BK283)
                      (try clear HB)
                      generalize ((((((w62.setCell ⟨gb283, 0, none⟩ (.int .i64 ((rd_T136 l0_4 x23_2).f0))).setCell ⟨gb283, 1, none⟩ (.int .i64 ((rd_T136 l0_4 x23_2).f1))).setCell ⟨gb283, 2, none⟩ (.bool ((rd_T136 l0_4 x23_2).f2))).setCell ⟨gb283, 3, none⟩ (.int .i64 ((rd_T136 l0_4 x23_2).f3.f0))).setCell ⟨gb283, 4, none⟩ (.int .i64 ((rd_T136 l0_4 x23_2).f3.f1))).setCell ⟨gb283, 5, none⟩ (.int .i64 ((rd_T136 l0_4 x23_2).f3.f2))) = w66 at n0_ n1_ n2_ n3_ ⊢
                      have BK278 := n0_
                      have BK281 := n1_
                      have BK283 := n2_
                      have HB := n3_
                      clear n0_ n1_ n2_ n3_
                      have n0_ := Aside0.mk (blk_drew BK278.out)
                      have n1_ := Aside0.mk (blk_drew BK281.out)
                      have n2_ := Aside0.mk (blk_drew BK283.out)
                      have n3_ := Aside0.mk (below_drew1 HB.out)
                      clear BK278
                      clear BK281
                      clear BK283
                      clear HB
                      have BK278 := n0_
                      have BK281 := n1_
                      have BK283 := n2_
                      have HB := n3_
                      clear n0_ n1_ n2_ n3_
                      refine start_ (n := 28) (S := fun w' => w'.cell? ⟨gb281, 0, none⟩ = some (.int .i64 ((rd_T134 l0_5 x23_2).f0)) ∧ w'.cell? ⟨gb281, 1, none⟩ = some (.int .i64 ((rd_T134 l0_5 x23_2).f1.f0)) ∧ w'.cell? ⟨gb281, 2, none⟩ = some (.int .i64 ((rd_T134 l0_5 x23_2).f1.f1.f0)) ∧ w'.cell? ⟨gb281, 3, none⟩ = some (.int .i64 ((rd_T134 l0_5 x23_2).f1.f1.f1)) ∧ w'.cell? ⟨gb281, 4, none⟩ = some (.int .i64 ((rd_T134 l0_5 x23_2).f1.f1.f2)) ∧ w'.cell? ⟨gb281, 5, none⟩ = some (.slice A280_5 ((rd_T134 l0_5 x23_2).f1.f2).length c280_5) ∧ w'.cell? ⟨gb283, 0, none⟩ = some (.int .i64 ((rd_T136 l0_4 x23_2).f0)) ∧ w'.cell? ⟨gb283, 1, none⟩ = some (.int .i64 ((rd_T136 l0_4 x23_2).f1)) ∧ w'.cell? ⟨gb283, 2, none⟩ = some (.bool ((rd_T136 l0_4 x23_2).f2)) ∧ w'.cell? ⟨gb283, 3, none⟩ = some (.int .i64 ((rd_T136 l0_4 x23_2).f3.f0)) ∧ w'.cell? ⟨gb283, 4, none⟩ = some (.int .i64 ((rd_T136 l0_4 x23_2).f3.f1)) ∧ w'.cell? ⟨gb283, 5, none⟩ = some (.int .i64 ((rd_T136 l0_4 x23_2).f3.f2))) (ds := []) (bz 28 0) (by kernel_rfl) rfl (by kernel_rfl) ⟨(blk_cell BK281.out 0).trans rfl, (blk_cell BK281.out 1).trans rfl, (blk_cell BK281.out 2).trans rfl, (blk_cell BK281.out 3).trans rfl, (blk_cell BK281.out 4).trans rfl, (blk_cell BK281.out 5).trans rfl, (blk_cell BK283.out 0).trans rfl, (blk_cell BK283.out 1).trans rfl, (blk_cell BK283.out 2).trans rfl, (blk_cell BK283.out 3).trans rfl, (blk_cell BK283.out 4).trans rfl, (blk_cell BK283.out 5).trans rfl⟩ (fun hHeld => ?_); refine with_tabW impl_TreeOk.tab7 impl_TreeOk.bits7 (fun HT_ HW_ => ?_)
                      generalize w66.drew = w67 at BK278 BK281 BK283 HB hHeld ⊢
                      refine px_ (i := 0) (N := some 34) (bz 28 1) (any_of HT_.out (by kernel_rfl)) ?_
                      refine px_ (i := 2) (N := some 36) (bz 28 5) (any_of HT_.out (by kernel_rfl)) ?_
                      refine tx_ (i := 1) (N := some 35) (bz 28 7) rfl rfl (take_ofW HT_.out HW_.out (by kernel_rfl)) hHeld Z92 ?_
                      refine tx_ (i := 3) (N := some 37) (bz 28 15) rfl rfl (take_ofW HT_.out HW_.out (by kernel_rfl)) hHeld Z92 ?_
                      refine px_ (i := 4) (N := some 38) (bz 28 31) (any_of HT_.out (by kernel_rfl)) ?_
                      refine px_ (i := 5) (N := some 39) (bz 28 63) (any_of HT_.out (by kernel_rfl)) ?_
                      refine ox_ (i := 6) (N := some 40) (bz 28 127) (any_of HT_.out (by kernel_rfl)) ?_
                      refine ox_ (i := 7) (N := some 41) (bz 28 255) (any_of HT_.out (by kernel_rfl)) ?_
                      refine ox_ (i := 8) (N := some 42) (bz 28 511) (any_of HT_.out (by kernel_rfl)) ?_
                      refine ox_ (i := 9) (N := some 43) (bz 28 1023) (any_of HT_.out (by kernel_rfl)) ?_
                      refine px_ (i := 10) (N := some 44) (bz 28 2047) (any_of HT_.out (by kernel_rfl)) ?_
                      refine px_ (i := 11) (N := some 45) (bz 28 4095) (any_of HT_.out (by kernel_rfl)) ?_
                      refine ox_ (i := 12) (N := some 46) (bz 28 8191) (any_of HT_.out (by kernel_rfl)) ?_
                      refine ox_ (i := 13) (N := some 47) (bz 28 16383) (any_of HT_.out (by kernel_rfl)) ?_
                      refine ox_ (i := 14) (N := some 48) (bz 28 32767) (any_of HT_.out (by kernel_rfl)) ?_
                      refine ox_ (i := 15) (N := some 49) (bz 28 65535) (any_of HT_.out (by kernel_rfl)) ?_
                      refine ox_ (i := 16) (N := some 50) (bz 28 131071) (any_of HT_.out (by kernel_rfl)) ?_
                      refine ox_ (i := 17) (N := some 51) (bz 28 262143) (any_of HT_.out (by kernel_rfl)) ?_
                      refine ox_ (i := 18) (N := some 52) (bz 28 524287) (any_of HT_.out (by kernel_rfl)) ?_
                      refine px_ (i := 19) (N := some 53) (bz 28 1048575) (any_of HT_.out (by kernel_rfl)) ?_
                      refine px_ (i := 20) (N := some 54) (bz 28 2097151) (any_of HT_.out (by kernel_rfl)) ?_
                      refine ox_ (i := 21) (N := some 55) (bz 28 4194303) (any_of HT_.out (by kernel_rfl)) ?_
                      refine ox_ (i := 22) (N := some 56) (bz 28 8388607) (any_of HT_.out (by kernel_rfl)) ?_
                      refine ox_ (i := 23) (N := some 57) (bz 28 16777215) (any_of HT_.out (by kernel_rfl)) ?_
                      refine ox_ (i := 24) (N := some 58) (bz 28 33554431) (any_of HT_.out (by kernel_rfl)) ?_
                      refine ox_ (i := 25) (N := some 59) (bz 28 67108863) (any_of HT_.out (by kernel_rfl)) ?_
                      refine ox_ (i := 26) (N := some 60) (bz 28 134217727) (any_of HT_.out (by kernel_rfl)) ?_
                      refine px_ (i := 27) (N := some 61) (bz 28 268435455) (any_of HT_.out (by kernel_rfl)) ?_
                      refine done_ (done_of HT_.out (by kernel_rfl)) ?_
                      try go_wp2
                      go_ret
                      exact ⟨by first | rfl | (simp [errW_none, errW_some] <;> rfl) | (simp [*, errW_none, errW_some] <;> rfl), by repeat (first | (with_reducible first | exact HB.out | apply below_alloc | apply pw_below_drewN | apply below_drew1 | refine below_set ?_ GE278.out | refine below_set ?_ GE281.out | refine below_set ?_ GE283.out) | exact HB.out)⟩
                  · rw [if_neg c16] at H
                    exact absurd H (by simp)
                · rw [if_neg c15] at H
                  exact absurd H (by simp)
              · rw [if_neg c14] at H
                exact absurd H (by simp)
            · rw [if_neg c13] at H
              have c13b0 : decide (x23_2 < (l0_5.length : Int)) = false := decide_eq_false c13
              clear c13
              obtain rfl := Option.some.inj H
              go_wp2
              go_ret
              exact ⟨by first | rfl | (simp [errW_none, errW_some] <;> rfl) | (simp [*, errW_none, errW_some] <;> rfl), by repeat (first | (with_reducible first | exact HB.out | apply below_alloc | apply pw_below_drewN | apply below_drew1 | refine below_set ?_ GE278.out) | exact HB.out)⟩

end Go.Proofs.Yteecolnemffffaa.PFnExactTreeOk
