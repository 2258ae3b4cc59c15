-- by a program of this session's, over the kit's words
import Derived.Test.YteecolnemffffaaPFnExactLineNewx0
import Derived.Test.YteecolnemffffaaPFnExactLineNewx1
namespace Go.Proofs.Yteecolnemffffaa.PFnExactLineNew
open Go.RowKit Go.Proofs.YteecolnemffffaaW.PrintWords Go.Proofs.YteecolnemffffaaW.PrintLast Go.Proofs.YteecolnemffffaaW.PrintMore
attribute [local go_sem] max2_int min2_int max_two min_two max_three min_three max_four min_four   -- for this text's walks alone
set_option linter.unusedVariables false
set_option linter.unusedSimpArgs false

/-! ### spec_LineOk: function 28 -/
mutual
def spec_LineOk.j0 : Nat → Bool → Int → List (S109) → List (S109) → List (S109) → Option (Bool)
  | 0, _, _, _, _, _ => none
  | k + 1, x39, x115000, x115001, x115002, x115003 => if x39 = true then (some false) else ((spec_l21All.f x115000 x115001 x115002 x115003).bind fun t115 => (if (t115.length : Int) > x115000 then (some false) else (spec_LineOk.l0 k t115 0 x115000 x115001 x115002 x115003)))
def spec_LineOk.l0 : Nat → List (S109) → Int → Int → List (S109) → List (S109) → List (S109) → Option (Bool)
  | 0, _, _, _, _, _, _ => none
  | k + 1, x3, x4, x115000, x115001, x115002, x115003 => if x4 < (x3.length : Int) then (if 0 ≤ x4 then (if ((rd_T109 x3 x4).f0) < 0 then (spec_LineOk.j2 k x3 x4 true x115000 x115001 x115002 x115003) else (spec_LineOk.j2 k x3 x4 (decide (((rd_T109 x3 x4).f0) > 1000000000000)) x115000 x115001 x115002 x115003)) else (none)) else (some true)
def spec_LineOk.j2 : Nat → List (S109) → Int → Bool → Int → List (S109) → List (S109) → List (S109) → Option (Bool)
  | 0, _, _, _, _, _, _, _ => none
  | k + 1, x3, x4, x66, x115000, x115001, x115002, x115003 => if x66 = true then (some false) else (spec_LineOk.l1 k x3 x4 0 x115000 x115001 x115002 x115003)
def spec_LineOk.l1 : Nat → List (S109) → Int → Int → Int → List (S109) → List (S109) → List (S109) → Option (Bool)
  | 0, _, _, _, _, _, _, _ => none
  | k + 1, x3, x4, x5, x115000, x115001, x115002, x115003 => if x5 < x4 then (if 0 ≤ x5 then (if x5 < (x3.length : Int) then (if 0 ≤ x4 then (if x4 < (x3.length : Int) then (if ((rd_T109 x3 x5).f0) = ((rd_T109 x3 x4).f0) then (some false) else (spec_LineOk.l1 k x3 x4 (wrap64 (x5 + 1)) x115000 x115001 x115002 x115003)) else (none)) else (none)) else (none)) else (none)) else (if 0 ≤ x4 then (if x4 < (x3.length : Int) then (if x4 < (x115003.length : Int) then (spec_LineOk.j4 k x3 x4 2 x115000 x115001 x115002 x115003 ((rd_T109 x3 x4).f1.f0) ((rd_T109 x3 x4).f1.f1) ((rd_T109 x3 x4).f1.f2)) else (if x4 < (wrap64 ((x115003.length : Int) + (x115002.length : Int))) then (spec_LineOk.j4 k x3 x4 1 x115000 x115001 x115002 x115003 ((rd_T109 x3 x4).f1.f0) ((rd_T109 x3 x4).f1.f1) ((rd_T109 x3 x4).f1.f2)) else (spec_LineOk.j4 k x3 x4 0 x115000 x115001 x115002 x115003 ((rd_T109 x3 x4).f1.f0) ((rd_T109 x3 x4).f1.f1) ((rd_T109 x3 x4).f1.f2)))) else (none)) else (none))
def spec_LineOk.j4 : Nat → List (S109) → Int → Int → Int → List (S109) → List (S109) → List (S109) → Int → Int → Int → Option (Bool)
  | 0, _, _, _, _, _, _, _, _, _, _ => none
  | k + 1, x3, x4, x7, x115000, x115001, x115002, x115003, x124000, x124001, x124002 => if x7 > 0 then (if x124000 = 0 then (if x7 = 0 then (if x124000 < 1 then (spec_LineOk.j5 k x3 x4 x7 true x115000 x115001 x115002 x115003 x124000 x124001 x124002) else (spec_LineOk.j5 k x3 x4 x7 (decide (x124000 > 1000)) x115000 x115001 x115002 x115003 x124000 x124001 x124002)) else (spec_LineOk.j5 k x3 x4 x7 false x115000 x115001 x115002 x115003 x124000 x124001 x124002)) else (spec_LineOk.j5 k x3 x4 x7 true x115000 x115001 x115002 x115003 x124000 x124001 x124002)) else (if x7 = 0 then (if x124000 < 1 then (spec_LineOk.j5 k x3 x4 x7 true x115000 x115001 x115002 x115003 x124000 x124001 x124002) else (spec_LineOk.j5 k x3 x4 x7 (decide (x124000 > 1000)) x115000 x115001 x115002 x115003 x124000 x124001 x124002)) else (spec_LineOk.j5 k x3 x4 x7 false x115000 x115001 x115002 x115003 x124000 x124001 x124002))
def spec_LineOk.j5 : Nat → List (S109) → Int → Int → Bool → Int → List (S109) → List (S109) → List (S109) → Int → Int → Int → Option (Bool)
  | 0, _, _, _, _, _, _, _, _, _, _, _ => none
  | k + 1, x3, x4, x7, x122, x115000, x115001, x115002, x115003, x124000, x124001, x124002 => if x122 = true then (some false) else (if x7 = 2 then (if x124001 = 0 then (if x7 < 2 then (if x124001 < 1 then (some false) else (if x124001 > 1000 then (some false) else (if x124002 < 1 then (some false) else (if x124002 > 1000 then (some false) else (spec_LineOk.l0 k x3 (wrap64 (x4 + 1)) x115000 x115001 x115002 x115003))))) else (if x124002 < 1 then (some false) else (if x124002 > 1000 then (some false) else (spec_LineOk.l0 k x3 (wrap64 (x4 + 1)) x115000 x115001 x115002 x115003)))) else (some false)) else (if x7 < 2 then (if x124001 < 1 then (some false) else (if x124001 > 1000 then (some false) else (if x124002 < 1 then (some false) else (if x124002 > 1000 then (some false) else (spec_LineOk.l0 k x3 (wrap64 (x4 + 1)) x115000 x115001 x115002 x115003))))) else (if x124002 < 1 then (some false) else (if x124002 > 1000 then (some false) else (spec_LineOk.l0 k x3 (wrap64 (x4 + 1)) x115000 x115001 x115002 x115003)))))
end
def spec_LineOk.f (k : Nat) (a0_0 : Int) (l0_1 : List (S109)) (l0_2 : List (S109)) (l0_3 : List (S109)) : Option (Bool) := if a0_0 < 1 then (spec_LineOk.j0 k true a0_0 l0_1 l0_2 l0_3) else (if a0_0 > 16 then (spec_LineOk.j0 k true a0_0 l0_1 l0_2 l0_3) else (if (l0_1.length : Int) > a0_0 then (spec_LineOk.j0 k true a0_0 l0_1 l0_2 l0_3) else (if (l0_2.length : Int) > a0_0 then (spec_LineOk.j0 k true a0_0 l0_1 l0_2 l0_3) else (spec_LineOk.j0 k (decide ((l0_3.length : Int) > a0_0)) a0_0 l0_1 l0_2 l0_3))))
theorem spec_LineOk.mono_l : ∀ k, (∀ y0 y1 y2 y3 y4, LeO (spec_LineOk.j0 k y0 y1 y2 y3 y4) (spec_LineOk.j0 (k + 1) y0 y1 y2 y3 y4)) ∧ (∀ y0 y1 y2 y3 y4 y5, LeO (spec_LineOk.l0 k y0 y1 y2 y3 y4 y5) (spec_LineOk.l0 (k + 1) y0 y1 y2 y3 y4 y5)) ∧ (∀ y0 y1 y2 y3 y4 y5 y6, LeO (spec_LineOk.j2 k y0 y1 y2 y3 y4 y5 y6) (spec_LineOk.j2 (k + 1) y0 y1 y2 y3 y4 y5 y6)) ∧ (∀ y0 y1 y2 y3 y4 y5 y6, LeO (spec_LineOk.l1 k y0 y1 y2 y3 y4 y5 y6) (spec_LineOk.l1 (k + 1) y0 y1 y2 y3 y4 y5 y6)) ∧ (∀ y0 y1 y2 y3 y4 y5 y6 y7 y8 y9, LeO (spec_LineOk.j4 k y0 y1 y2 y3 y4 y5 y6 y7 y8 y9) (spec_LineOk.j4 (k + 1) y0 y1 y2 y3 y4 y5 y6 y7 y8 y9)) ∧ (∀ y0 y1 y2 y3 y4 y5 y6 y7 y8 y9 y10, LeO (spec_LineOk.j5 k y0 y1 y2 y3 y4 y5 y6 y7 y8 y9 y10) (spec_LineOk.j5 (k + 1) y0 y1 y2 y3 y4 y5 y6 y7 y8 y9 y10))
  | 0 => ⟨fun _ _ _ _ _ r h => by simp [spec_LineOk.j0] at h, fun _ _ _ _ _ _ r h => by simp [spec_LineOk.l0] at h, fun _ _ _ _ _ _ _ r h => by simp [spec_LineOk.j2] at h, fun _ _ _ _ _ _ _ r h => by simp [spec_LineOk.l1] at h, fun _ _ _ _ _ _ _ _ _ _ r h => by simp [spec_LineOk.j4] at h, fun _ _ _ _ _ _ _ _ _ _ _ r h => by simp [spec_LineOk.j5] at h⟩
  | k + 1 => by
    obtain ⟨ih0, ih1, ih2, ih3, ih4, ih5⟩ := spec_LineOk.mono_l k
    refine ⟨?_, ?_, ?_, ?_, ?_, ?_⟩
    · intro y0 y1 y2 y3 y4
      unfold spec_LineOk.j0
      repeat' first
      | (with_reducible exact ih0 _ _ _ _ _)
      | (with_reducible exact ih1 _ _ _ _ _ _)
      | (with_reducible exact ih2 _ _ _ _ _ _ _)
      | (with_reducible exact ih3 _ _ _ _ _ _ _)
      | (with_reducible exact ih4 _ _ _ _ _ _ _ _ _ _)
      | (with_reducible exact ih5 _ _ _ _ _ _ _ _ _ _ _)
      | (with_reducible exact LeO.refl _)
      | (with_reducible exact LeO.none _)
      | (with_reducible refine LeO.ite ?_ ?_)
      | (with_reducible refine LeO.bind ?_ (fun _ => ?_))
      | exact ih0 _ _ _ _ _
      | exact ih1 _ _ _ _ _ _
      | exact ih2 _ _ _ _ _ _ _
      | exact ih3 _ _ _ _ _ _ _
      | exact ih4 _ _ _ _ _ _ _ _ _ _
      | exact ih5 _ _ _ _ _ _ _ _ _ _ _
      | exact LeO.none _
      | refine LeO.ite ?_ ?_
      | refine LeO.bind ?_ (fun _ => ?_)
    · intro y0 y1 y2 y3 y4 y5
      unfold spec_LineOk.l0
      repeat' first
      | (with_reducible exact ih0 _ _ _ _ _)
      | (with_reducible exact ih1 _ _ _ _ _ _)
      | (with_reducible exact ih2 _ _ _ _ _ _ _)
      | (with_reducible exact ih3 _ _ _ _ _ _ _)
      | (with_reducible exact ih4 _ _ _ _ _ _ _ _ _ _)
      | (with_reducible exact ih5 _ _ _ _ _ _ _ _ _ _ _)
      | (with_reducible exact LeO.refl _)
      | (with_reducible exact LeO.none _)
      | (with_reducible refine LeO.ite ?_ ?_)
      | (with_reducible refine LeO.bind ?_ (fun _ => ?_))
      | exact ih0 _ _ _ _ _
      | exact ih1 _ _ _ _ _ _
      | exact ih2 _ _ _ _ _ _ _
      | exact ih3 _ _ _ _ _ _ _
      | exact ih4 _ _ _ _ _ _ _ _ _ _
      | exact ih5 _ _ _ _ _ _ _ _ _ _ _
      | exact LeO.none _
      | refine LeO.ite ?_ ?_
      | refine LeO.bind ?_ (fun _ => ?_)
    · intro y0 y1 y2 y3 y4 y5 y6
      unfold spec_LineOk.j2
      repeat' first
      | (with_reducible exact ih0 _ _ _ _ _)
      | (with_reducible exact ih1 _ _ _ _ _ _)
      | (with_reducible exact ih2 _ _ _ _ _ _ _)
      | (with_reducible exact ih3 _ _ _ _ _ _ _)
      | (with_reducible exact ih4 _ _ _ _ _ _ _ _ _ _)
      | (with_reducible exact ih5 _ _ _ _ _ _ _ _ _ _ _)
      | (with_reducible exact LeO.refl _)
      | (with_reducible exact LeO.none _)
      | (with_reducible refine LeO.ite ?_ ?_)
      | (with_reducible refine LeO.bind ?_ (fun _ => ?_))
      | exact ih0 _ _ _ _ _
      | exact ih1 _ _ _ _ _ _
      | exact ih2 _ _ _ _ _ _ _
      | exact ih3 _ _ _ _ _ _ _
      | exact ih4 _ _ _ _ _ _ _ _ _ _
      | exact ih5 _ _ _ _ _ _ _ _ _ _ _
      | exact LeO.none _
      | refine LeO.ite ?_ ?_
      | refine LeO.bind ?_ (fun _ => ?_)
    · intro y0 y1 y2 y3 y4 y5 y6
      unfold spec_LineOk.l1
      repeat' first
      | (with_reducible exact ih0 _ _ _ _ _)
      | (with_reducible exact ih1 _ _ _ _ _ _)
      | (with_reducible exact ih2 _ _ _ _ _ _ _)
      | (with_reducible exact ih3 _ _ _ _ _ _ _)
      | (with_reducible exact ih4 _ _ _ _ _ _ _ _ _ _)
      | (with_reducible exact ih5 _ _ _ _ _ _ _ _ _ _ _)
      | (with_reducible exact LeO.refl _)
      | (with_reducible exact LeO.none _)
      | (with_reducible refine LeO.ite ?_ ?_)
      | (with_reducible refine LeO.bind ?_ (fun _ => ?_))
      | exact ih0 _ _ _ _ _
      | exact ih1 _ _ _ _ _ _
      | exact ih2 _ _ _ _ _ _ _
      | exact ih3 _ _ _ _ _ _ _
      | exact ih4 _ _ _ _ _ _ _ _ _ _
      | exact ih5 _ _ _ _ _ _ _ _ _ _ _
      | exact LeO.none _
      | refine LeO.ite ?_ ?_
      | refine LeO.bind ?_ (fun _ => ?_)
    · intro y0 y1 y2 y3 y4 y5 y6 y7 y8 y9
      unfold spec_LineOk.j4
      repeat' first
      | (with_reducible exact ih0 _ _ _ _ _)
      | (with_reducible exact ih1 _ _ _ _ _ _)
      | (with_reducible exact ih2 _ _ _ _ _ _ _)
      | (with_reducible exact ih3 _ _ _ _ _ _ _)
      | (with_reducible exact ih4 _ _ _ _ _ _ _ _ _ _)
      | (with_reducible exact ih5 _ _ _ _ _ _ _ _ _ _ _)
      | (with_reducible exact LeO.refl _)
      | (with_reducible exact LeO.none _)
      | (with_reducible refine LeO.ite ?_ ?_)
      | (with_reducible refine LeO.bind ?_ (fun _ => ?_))
      | exact ih0 _ _ _ _ _
      | exact ih1 _ _ _ _ _ _
      | exact ih2 _ _ _ _ _ _ _
      | exact ih3 _ _ _ _ _ _ _
      | exact ih4 _ _ _ _ _ _ _ _ _ _
      | exact ih5 _ _ _ _ _ _ _ _ _ _ _
      | exact LeO.none _
      | refine LeO.ite ?_ ?_
      | refine LeO.bind ?_ (fun _ => ?_)
    · intro y0 y1 y2 y3 y4 y5 y6 y7 y8 y9 y10
      unfold spec_LineOk.j5
      repeat' first
      | (with_reducible exact ih0 _ _ _ _ _)
      | (with_reducible exact ih1 _ _ _ _ _ _)
      | (with_reducible exact ih2 _ _ _ _ _ _ _)
      | (with_reducible exact ih3 _ _ _ _ _ _ _)
      | (with_reducible exact ih4 _ _ _ _ _ _ _ _ _ _)
      | (with_reducible exact ih5 _ _ _ _ _ _ _ _ _ _ _)
      | (with_reducible exact LeO.refl _)
      | (with_reducible exact LeO.none _)
      | (with_reducible refine LeO.ite ?_ ?_)
      | (with_reducible refine LeO.bind ?_ (fun _ => ?_))
      | exact ih0 _ _ _ _ _
      | exact ih1 _ _ _ _ _ _
      | exact ih2 _ _ _ _ _ _ _
      | exact ih3 _ _ _ _ _ _ _
      | exact ih4 _ _ _ _ _ _ _ _ _ _
      | exact ih5 _ _ _ _ _ _ _ _ _ _ _
      | exact LeO.none _
      | refine LeO.ite ?_ ?_
      | refine LeO.bind ?_ (fun _ => ?_)
theorem spec_LineOk.mono : ∀ a0 a1 a2 a3 k, LeO (spec_LineOk.f k a0 a1 a2 a3) (spec_LineOk.f (k + 1) a0 a1 a2 a3) := by
  intro a0 a1 a2 a3 k
  obtain ⟨ih0, ih1, ih2, ih3, ih4, ih5⟩ := spec_LineOk.mono_l k
  unfold spec_LineOk.f
  repeat' first
      | (with_reducible exact ih0 _ _ _ _ _)
      | (with_reducible exact ih1 _ _ _ _ _ _)
      | (with_reducible exact ih2 _ _ _ _ _ _ _)
      | (with_reducible exact ih3 _ _ _ _ _ _ _)
      | (with_reducible exact ih4 _ _ _ _ _ _ _ _ _ _)
      | (with_reducible exact ih5 _ _ _ _ _ _ _ _ _ _ _)
      | (with_reducible exact LeO.refl _)
      | (with_reducible exact LeO.none _)
      | (with_reducible refine LeO.ite ?_ ?_)
      | (with_reducible refine LeO.bind ?_ (fun _ => ?_))
      | exact ih0 _ _ _ _ _
      | exact ih1 _ _ _ _ _ _
      | exact ih2 _ _ _ _ _ _ _
      | exact ih3 _ _ _ _ _ _ _
      | exact ih4 _ _ _ _ _ _ _ _ _ _
      | exact ih5 _ _ _ _ _ _ _ _ _ _ _
      | exact LeO.none _
      | refine LeO.ite ?_ ?_
      | refine LeO.bind ?_ (fun _ => ?_)
set_option maxHeartbeats 8000000 in
set_option maxRecDepth 100000 in
theorem spec_LineOk.calls (k : Nat) (a0_0 : Int) (A0_1 : Option Addr) (c0_1 : Nat) (l0_1 : List (S109)) (A0_2 : Option Addr) (c0_2 : Nat) (l0_2 : List (S109)) (A0_3 : Option Addr) (c0_3 : Nat) (l0_3 : List (S109)) (r : Bool) (w : World) (hr0_1 : Kd.C k109 w A0_1 l0_1.length l0_1) (hc0_1 : l0_1.length ≤ c0_1) (hr0_2 : Kd.C k109 w A0_2 l0_2.length l0_2) (hc0_2 : l0_2.length ≤ c0_2) (hr0_3 : Kd.C k109 w A0_3 l0_3.length l0_3) (hc0_3 : l0_3.length ≤ c0_3) (h : spec_LineOk.f k a0_0 l0_1 l0_2 l0_3 = some r) :
    Calls Try.prog 28 #[.agg #[.int .i64 a0_0, .slice A0_1 l0_1.length c0_1, .slice A0_2 l0_2.length c0_2, .slice A0_3 l0_3.length c0_3]] w fun e w' => e = .returned (.bool r) ∧ Below w.heap.size w w' := by
  have hu26 := Try.underlying26
  have hu49 := Try.underlying49
  have HR0_1 := Aside0.mk hr0_1
  have HC0_1 := Aside0.mk hc0_1
  clear hr0_1 hc0_1
  have HR0_2 := Aside0.mk hr0_2
  have HC0_2 := Aside0.mk hc0_2
  clear hr0_2 hc0_2
  have HR0_3 := Aside0.mk hr0_3
  have HC0_3 := Aside0.mk hc0_3
  clear hr0_3 hc0_3
  have HB := Aside0.mk (Below.refl w.heap.size w)
  have H : (if a0_0 < 1 then (spec_LineOk.j0 k true a0_0 l0_1 l0_2 l0_3) else (if a0_0 > 16 then (spec_LineOk.j0 k true a0_0 l0_1 l0_2 l0_3) else (if (l0_1.length : Int) > a0_0 then (spec_LineOk.j0 k true a0_0 l0_1 l0_2 l0_3) else (if (l0_2.length : Int) > a0_0 then (spec_LineOk.j0 k true a0_0 l0_1 l0_2 l0_3) else (spec_LineOk.j0 k (decide ((l0_3.length : Int) > a0_0)) a0_0 l0_1 l0_2 l0_3))))) = some r := h
  clear h
  have HC2 := Aside0.mk H
  clear H
  go_enter Try.func28, Try.ntmps28
  go_upto_region 1 with (first | ((with_reducible refine gate_dst (N := 1) rfl ?_); (try (refine gate_guard (by rfl) ?_; dsimp only)); refine box_event ?hg (N := 1) ?hd (cs := #[.int .i64 a0_0, .slice A0_1 l0_1.length c0_1, .slice A0_2 l0_2.length c0_2, .slice A0_3 l0_3.length c0_3]) (t := 26) ?hr ?_; (case hd => rfl); (case hg => rfl); (case hr => first | (go_simp; done) | (go_simp; rfl)); intro gb114 hg w3 hbox hb; have n0_ := Aside0.mk (below_step (by repeat (first | (with_reducible first | exact HB.out | apply below_alloc | apply pw_below_drewN | apply below_drew1) | exact HB.out)) hb); have n1_ := Aside0.mk (hbox); have n2_ := Aside0.mk ((by rw [hg]; exact (below_size (by repeat (first | (with_reducible first | exact HB.out | apply below_alloc | apply pw_below_drewN | apply below_drew1) | exact HB.out))) : w.heap.size ≤ gb114)); have n3_ := Aside0.mk ((by rw [hg]; exact (below_size (by repeat (first | (with_reducible first | exact HB.out | apply below_alloc | apply pw_below_drewN | apply below_drew1) | exact HB.out))) : w.heap.size ≤ gb114)); clear HB; have HB := n0_; have BK114 := n1_; have GW114 := n2_; have GE114 := n3_; clear n0_ n1_ n2_ n3_; clear hb hbox hg))
  repeat (go_quiet (first | ((with_reducible refine gate_dst (N := 1) rfl ?_); (try (refine gate_guard (by rfl) ?_; dsimp only)); refine box_event ?hg (N := 1) ?hd (cs := #[.int .i64 a0_0, .slice A0_1 l0_1.length c0_1, .slice A0_2 l0_2.length c0_2, .slice A0_3 l0_3.length c0_3]) (t := 26) ?hr ?_; (case hd => rfl); (case hg => rfl); (case hr => first | (go_simp; done) | (go_simp; rfl)); intro gb114 hg w3 hbox hb; have n0_ := Aside0.mk (below_step (by repeat (first | (with_reducible first | exact HB.out | apply below_alloc | apply pw_below_drewN | apply below_drew1) | exact HB.out)) hb); have n1_ := Aside0.mk (hbox); have n2_ := Aside0.mk ((by rw [hg]; exact (below_size (by repeat (first | (with_reducible first | exact HB.out | apply below_alloc | apply pw_below_drewN | apply below_drew1) | exact HB.out))) : w.heap.size ≤ gb114)); have n3_ := Aside0.mk ((by rw [hg]; exact (below_size (by repeat (first | (with_reducible first | exact HB.out | apply below_alloc | apply pw_below_drewN | apply below_drew1) | exact HB.out))) : w.heap.size ≤ gb114)); clear HB; have HB := n0_; have BK114 := n1_; have GW114 := n2_; have GE114 := n3_; clear n0_ n1_ n2_ n3_; clear hb hbox hg)); go_upto_region 1 with (first | ((with_reducible refine gate_dst (N := 1) rfl ?_); (try (refine gate_guard (by rfl) ?_; dsimp only)); refine box_event ?hg (N := 1) ?hd (cs := #[.int .i64 a0_0, .slice A0_1 l0_1.length c0_1, .slice A0_2 l0_2.length c0_2, .slice A0_3 l0_3.length c0_3]) (t := 26) ?hr ?_; (case hd => rfl); (case hg => rfl); (case hr => first | (go_simp; done) | (go_simp; rfl)); intro gb114 hg w3 hbox hb; have n0_ := Aside0.mk (below_step (by repeat (first | (with_reducible first | exact HB.out | apply below_alloc | apply pw_below_drewN | apply below_drew1) | exact HB.out)) hb); have n1_ := Aside0.mk (hbox); have n2_ := Aside0.mk ((by rw [hg]; exact (below_size (by repeat (first | (with_reducible first | exact HB.out | apply below_alloc | apply pw_below_drewN | apply below_drew1) | exact HB.out))) : w.heap.size ≤ gb114)); have n3_ := Aside0.mk ((by rw [hg]; exact (below_size (by repeat (first | (with_reducible first | exact HB.out | apply below_alloc | apply pw_below_drewN | apply below_drew1) | exact HB.out))) : w.heap.size ≤ gb114)); clear HB; have HB := n0_; have BK114 := n1_; have GW114 := n2_; have GE114 := n3_; clear n0_ n1_ n2_ n3_; clear hb hbox hg)))
  (try simp only [Act.put, List.setIfInBounds_toArray, List.set_cons_zero, List.set_cons_succ])
  go_cut [39] (fun v39 wc => ∃ (kq : Nat) (x39_1 : Bool), v39 = .bool x39_1 ∧ Aside0 (spec_LineOk.j0 kq x39_1 a0_0 l0_1 l0_2 l0_3 = some r) ∧ Aside0 (kq ≤ k) ∧ Aside0 (wc.heap[gb114]? = some (.cells #[.int .i64 a0_0, (.slice A0_1 l0_1.length c0_1), (.slice A0_2 l0_2.length c0_2), (.slice A0_3 l0_3.length c0_3)] 26 (0, 0))) ∧ Aside0 (Below w.heap.size w wc))
  case first =>
    have H := HC2.out
    clear HC2
    by_cases c4 : a0_0 < 1
    · rw [if_pos c4] at H
      have c4b0 : decide (a0_0 < 1) = true := decide_eq_true c4
      clear c4
      (first | rw [c4b0] | (simp only [i64_w, i32_w]; rw [c4b0]) | skip)
      have H' := Aside0.mk H
      clear H
      have hcz5_0 : w3.cell? ⟨gb114, 0, none⟩ = some (.int .i64 a0_0) := (blk_cell BK114.out 0).trans rfl
      have hcz5_1 : w3.cell? ⟨gb114, 1, none⟩ = some (.slice A0_1 l0_1.length c0_1) := (blk_cell BK114.out 1).trans rfl
      have hcz5_2 : w3.cell? ⟨gb114, 2, none⟩ = some (.slice A0_2 l0_2.length c0_2) := (blk_cell BK114.out 2).trans rfl
      have hcz5_3 : w3.cell? ⟨gb114, 3, none⟩ = some (.slice A0_3 l0_3.length c0_3) := (blk_cell BK114.out 3).trans rfl
      have hfz5_0 := blk_frozen BK114.out 0
      have hfz5_1 := blk_frozen BK114.out 1
      have hfz5_2 := blk_frozen BK114.out 2
      have hfz5_3 := blk_frozen BK114.out 3
      go_wp2
      repeat (go_quiet (fail); try go_wp2)
      go_meet
      case rel => exact ⟨_, (true), (by first | rfl | (simp; done) | (simp [*]; done)), H', ⟨by first | omega | exact Nat.le_refl _⟩, ⟨by (with_reducible repeat (first | refine blk_drewN ?_ _ | refine blk_drew ?_ | refine blk_alloc ?_ _)); exact BK114.out⟩, ⟨by repeat (first | (with_reducible first | exact HB.out | apply below_alloc | apply pw_below_drewN | apply below_drew1 | refine below_set ?_ GE114.out) | exact HB.out)⟩⟩
    · rw [if_neg c4] at H
      have c4b0 : decide (a0_0 < 1) = false := decide_eq_false c4
      clear c4
      (first | rw [c4b0] | (simp only [i64_w, i32_w]; rw [c4b0]) | skip)
      by_cases c6 : a0_0 > 16
      · rw [if_pos c6] at H
        have c6b0 : decide (16 < a0_0) = true := decide_eq_true c6
        clear c6
        have H' := Aside0.mk H
        clear H
        have hcz7_0 : w3.cell? ⟨gb114, 0, none⟩ = some (.int .i64 a0_0) := (blk_cell BK114.out 0).trans rfl
        have hcz7_1 : w3.cell? ⟨gb114, 1, none⟩ = some (.slice A0_1 l0_1.length c0_1) := (blk_cell BK114.out 1).trans rfl
        have hcz7_2 : w3.cell? ⟨gb114, 2, none⟩ = some (.slice A0_2 l0_2.length c0_2) := (blk_cell BK114.out 2).trans rfl
        have hcz7_3 : w3.cell? ⟨gb114, 3, none⟩ = some (.slice A0_3 l0_3.length c0_3) := (blk_cell BK114.out 3).trans rfl
        have hfz7_0 := blk_frozen BK114.out 0
        have hfz7_1 := blk_frozen BK114.out 1
        have hfz7_2 := blk_frozen BK114.out 2
        have hfz7_3 := blk_frozen BK114.out 3
        go_wp2
        repeat (go_quiet (fail); try go_wp2)
        go_meet
        case rel => exact ⟨_, (true), (by first | rfl | (simp; done) | (simp [*]; done)), H', ⟨by first | omega | exact Nat.le_refl _⟩, ⟨by (with_reducible repeat (first | refine blk_drewN ?_ _ | refine blk_drew ?_ | refine blk_alloc ?_ _)); exact BK114.out⟩, ⟨by repeat (first | (with_reducible first | exact HB.out | apply below_alloc | apply pw_below_drewN | apply below_drew1 | refine below_set ?_ GE114.out) | exact HB.out)⟩⟩
      · rw [if_neg c6] at H
        have c6b0 : decide (16 < a0_0) = false := decide_eq_false c6
        clear c6
        by_cases c8 : (l0_1.length : Int) > a0_0
        · rw [if_pos c8] at H
          have c8b0 : decide (a0_0 < (l0_1.length : Int)) = true := decide_eq_true c8
          clear c8
          have H' := Aside0.mk H
          clear H
          have hcz9_0 : w3.cell? ⟨gb114, 0, none⟩ = some (.int .i64 a0_0) := (blk_cell BK114.out 0).trans rfl
          have hcz9_1 : w3.cell? ⟨gb114, 1, none⟩ = some (.slice A0_1 l0_1.length c0_1) := (blk_cell BK114.out 1).trans rfl
          have hcz9_2 : w3.cell? ⟨gb114, 2, none⟩ = some (.slice A0_2 l0_2.length c0_2) := (blk_cell BK114.out 2).trans rfl
          have hcz9_3 : w3.cell? ⟨gb114, 3, none⟩ = some (.slice A0_3 l0_3.length c0_3) := (blk_cell BK114.out 3).trans rfl
          have hfz9_0 := blk_frozen BK114.out 0
          have hfz9_1 := blk_frozen BK114.out 1
          have hfz9_2 := blk_frozen BK114.out 2
          have hfz9_3 := blk_frozen BK114.out 3
          go_wp2
          repeat (go_quiet (fail); try go_wp2)
          go_meet
          case rel => exact ⟨_, (true), (by first | rfl | (simp; done) | (simp [*]; done)), H', ⟨by first | omega | exact Nat.le_refl _⟩, ⟨by (with_reducible repeat (first | refine blk_drewN ?_ _ | refine blk_drew ?_ | refine blk_alloc ?_ _)); exact BK114.out⟩, ⟨by repeat (first | (with_reducible first | exact HB.out | apply below_alloc | apply pw_below_drewN | apply below_drew1 | refine below_set ?_ GE114.out) | exact HB.out)⟩⟩
        · rw [if_neg c8] at H
          have c8b0 : decide (a0_0 < (l0_1.length : Int)) = false := decide_eq_false c8
          clear c8
          by_cases c10 : (l0_2.length : Int) > a0_0
          · rw [if_pos c10] at H
            have c10b0 : decide (a0_0 < (l0_2.length : Int)) = true := decide_eq_true c10
            clear c10
            have H' := Aside0.mk H
            clear H
            have hcz11_0 : w3.cell? ⟨gb114, 0, none⟩ = some (.int .i64 a0_0) := (blk_cell BK114.out 0).trans rfl
            have hcz11_1 : w3.cell? ⟨gb114, 1, none⟩ = some (.slice A0_1 l0_1.length c0_1) := (blk_cell BK114.out 1).trans rfl
            have hcz11_2 : w3.cell? ⟨gb114, 2, none⟩ = some (.slice A0_2 l0_2.length c0_2) := (blk_cell BK114.out 2).trans rfl
            have hcz11_3 : w3.cell? ⟨gb114, 3, none⟩ = some (.slice A0_3 l0_3.length c0_3) := (blk_cell BK114.out 3).trans rfl
            have hfz11_0 := blk_frozen BK114.out 0
            have hfz11_1 := blk_frozen BK114.out 1
            have hfz11_2 := blk_frozen BK114.out 2
            have hfz11_3 := blk_frozen BK114.out 3
            go_wp2
            repeat (go_quiet (fail); try go_wp2)
            go_meet
            case rel => exact ⟨_, (true), (by first | rfl | (simp; done) | (simp [*]; done)), H', ⟨by first | omega | exact Nat.le_refl _⟩, ⟨by (with_reducible repeat (first | refine blk_drewN ?_ _ | refine blk_drew ?_ | refine blk_alloc ?_ _)); exact BK114.out⟩, ⟨by repeat (first | (with_reducible first | exact HB.out | apply below_alloc | apply pw_below_drewN | apply below_drew1 | refine below_set ?_ GE114.out) | exact HB.out)⟩⟩
          · rw [if_neg c10] at H
            have c10b0 : decide (a0_0 < (l0_2.length : Int)) = false := decide_eq_false c10
            clear c10
            have H' := Aside0.mk H
            clear H
            have hcz12_0 : w3.cell? ⟨gb114, 0, none⟩ = some (.int .i64 a0_0) := (blk_cell BK114.out 0).trans rfl
            have hcz12_1 : w3.cell? ⟨gb114, 1, none⟩ = some (.slice A0_1 l0_1.length c0_1) := (blk_cell BK114.out 1).trans rfl
            have hcz12_2 : w3.cell? ⟨gb114, 2, none⟩ = some (.slice A0_2 l0_2.length c0_2) := (blk_cell BK114.out 2).trans rfl
            have hcz12_3 : w3.cell? ⟨gb114, 3, none⟩ = some (.slice A0_3 l0_3.length c0_3) := (blk_cell BK114.out 3).trans rfl
            have hfz12_0 := blk_frozen BK114.out 0
            have hfz12_1 := blk_frozen BK114.out 1
            have hfz12_2 := blk_frozen BK114.out 2
            have hfz12_3 := blk_frozen BK114.out 3
            go_wp2
            repeat (go_quiet (fail); try go_wp2)
            go_meet
            case rel => exact ⟨_, (decide ((l0_3.length : Int) > a0_0)), (by first | rfl | (simp; done) | (simp [*]; done)), H', ⟨by first | omega | exact Nat.le_refl _⟩, ⟨by (with_reducible repeat (first | refine blk_drewN ?_ _ | refine blk_drew ?_ | refine blk_alloc ?_ _)); exact BK114.out⟩, ⟨by repeat (first | (with_reducible first | exact HB.out | apply below_alloc | apply pw_below_drewN | apply below_drew1 | refine below_set ?_ GE114.out) | exact HB.out)⟩⟩
  case rest =>
    clear HC2
    try clear c1
    try clear c2
    try clear p2
    try clear c4
    try clear c4b0
    try clear c6
    try clear c6b0
    try clear c8
    try clear c8b0
    try clear c10
    try clear c10b0
    try clear hcz11_0
    try clear hcz11_1
    try clear hcz11_2
    try clear hcz11_3
    try clear hcz12_0
    try clear hcz12_1
    try clear hcz12_2
    try clear hcz12_3
    try clear hcz5_0
    try clear hcz5_1
    try clear hcz5_2
    try clear hcz5_3
    try clear hcz7_0
    try clear hcz7_1
    try clear hcz7_2
    try clear hcz7_3
    try clear hcz9_0
    try clear hcz9_1
    try clear hcz9_2
    try clear hcz9_3
    try clear hfz11_0
    try clear hfz11_1
    try clear hfz11_2
    try clear hfz11_3
    try clear hfz12_0
    try clear hfz12_1
    try clear hfz12_2
    try clear hfz12_3
    try clear hfz5_0
    try clear hfz5_1
    try clear hfz5_2
    try clear hfz5_3
    try clear hfz7_0
    try clear hfz7_1
    try clear hfz7_2
    try clear hfz7_3
    try clear hfz9_0
    try clear hfz9_1
    try clear hfz9_2
    try clear hfz9_3
    obtain ⟨kq, x39_1, rfl, HA, HJ1, BK114, HB⟩ := hcut
    cases kq with
    | zero => exact absurd HA.out (by simp [spec_LineOk.j0])
    | succ kj1 =>
      have H := HA.out
      clear HA
      simp only [spec_LineOk.j0] at H
      by_cases c13 : x39_1 = true
      · subst c13
        have H1 : (some false) = some r := by rw [if_pos rfl] at H; exact H
        clear H
        have H := H1
        clear H1
        obtain rfl := Option.some.inj H
        go_wp2
        repeat (go_quiet (fail); try go_wp2)
        go_ret
        exact ⟨by first | rfl | (simp [errW_none, errW_some] <;> rfl) | (simp [*, errW_none, errW_some] <;> rfl), by repeat (first | (with_reducible first | exact HB.out | apply below_alloc | apply pw_below_drewN | apply below_drew1 | refine below_set ?_ GE114.out) | exact HB.out)⟩
      · replace c13 := Bool.eq_false_iff.mpr c13
        subst c13
        have H1 : ((spec_l21All.f a0_0 l0_1 l0_2 l0_3).bind fun t115 => (if (t115.length : Int) > a0_0 then (some false) else (spec_LineOk.l0 kj1 t115 0 a0_0 l0_1 l0_2 l0_3))) = some r := by rw [if_neg (show ¬ (false = true) by decide)] at H; exact H
        clear H
        have H := H1
        clear H1
        replace H := Option.bind_eq_some_iff.mp H
        obtain ⟨t115, A140, H⟩ := H
        replace H : (if (t115.length : Int) > a0_0 then (some false) else (spec_LineOk.l0 kj1 t115 0 a0_0 l0_1 l0_2 l0_3)) = some r := H
        have A14 := Aside0.mk A140
        clear A140
        by_cases c15 : (t115.length : Int) > a0_0
        · rw [if_pos c15] at H
          have c15b0 : decide (a0_0 < (t115.length : Int)) = true := decide_eq_true c15
          clear c15
          obtain rfl := Option.some.inj H
          have hcz16_0 : wc.cell? ⟨gb114, 0, none⟩ = some (.int .i64 a0_0) := (blk_cell BK114.out 0).trans rfl
          have hcz16_1 : wc.cell? ⟨gb114, 1, none⟩ = some (.slice A0_1 l0_1.length c0_1) := (blk_cell BK114.out 1).trans rfl
          have hcz16_2 : wc.cell? ⟨gb114, 2, none⟩ = some (.slice A0_2 l0_2.length c0_2) := (blk_cell BK114.out 2).trans rfl
          have hcz16_3 : wc.cell? ⟨gb114, 3, none⟩ = some (.slice A0_3 l0_3.length c0_3) := (blk_cell BK114.out 3).trans rfl
          have hfz16_0 := blk_frozen BK114.out 0
          have hfz16_1 := blk_frozen BK114.out 1
          have hfz16_2 := blk_frozen BK114.out 2
          have hfz16_3 := blk_frozen BK114.out 3
          go_wp2_with (first | (go_at_call 79; (with_reducible refine (spec_l21All.calls a0_0 _ _ l0_1 _ _ l0_2 _ _ l0_3 t115 _ ?side1 ?side2 ?side3 ?side4 ?side5 ?side6 A14.out).mono ?_); (case side1 => repeat (first | exact (Kd.C_below HR0_1.out HB.out) | (with_reducible refine Kd.C_alloc ?_ _) | (with_reducible refine Kd.C_drewN ?_ _) | (with_reducible refine Kd.C_drew ?_))); (case side2 => exact HC0_1.out); (case side3 => repeat (first | exact (Kd.C_below HR0_2.out HB.out) | (with_reducible refine Kd.C_alloc ?_ _) | (with_reducible refine Kd.C_drewN ?_ _) | (with_reducible refine Kd.C_drew ?_))); (case side4 => exact HC0_2.out); (case side5 => repeat (first | exact (Kd.C_below HR0_3.out HB.out) | (with_reducible refine Kd.C_alloc ?_ _) | (with_reducible refine Kd.C_drewN ?_ _) | (with_reducible refine Kd.C_drew ?_))); (case side6 => exact HC0_3.out); rintro e w17 ⟨v116, rfl, ho0, hb⟩; have n0_ := Aside0.mk (Kd.R_lower ho0 (below_size (by repeat (first | (with_reducible first | exact HB.out | apply below_alloc | apply pw_below_drewN | apply below_drew1 | refine below_set ?_ GE114.out) | exact HB.out)))); have n1_ := Aside0.mk (blk_below (g := gb114) (o := .cells #[.int .i64 a0_0, .slice A0_1 l0_1.length c0_1, .slice A0_2 l0_2.length c0_2, .slice A0_3 l0_3.length c0_3] 26 (0, 0)) (by (with_reducible repeat (first | refine blk_drewN ?_ _ | refine blk_drew ?_ | refine blk_alloc ?_ _)); exact BK114.out) hb); have n2_ := Aside0.mk (below_step (by repeat (first | (with_reducible first | exact HB.out | apply below_alloc | apply pw_below_drewN | apply below_drew1 | refine below_set ?_ GE114.out) | exact HB.out)) hb); clear BK114; clear HB; have HO117 := n0_; have BK114 := n1_; have HB := n2_; clear n0_ n1_ n2_; (try clear hb); (try clear hb2); (try clear hk); (try clear hi); (try clear ho0); obtain ⟨Ao18, co18, eo18⟩ := Kd.R_slice HO117.out; subst eo18; have hcz19_0 : w17.cell? ⟨gb114, 0, none⟩ = some (.int .i64 a0_0) := (blk_cell BK114.out 0).trans rfl; have hcz19_1 : w17.cell? ⟨gb114, 1, none⟩ = some (.slice A0_1 l0_1.length c0_1) := (blk_cell BK114.out 1).trans rfl; have hcz19_2 : w17.cell? ⟨gb114, 2, none⟩ = some (.slice A0_2 l0_2.length c0_2) := (blk_cell BK114.out 2).trans rfl; have hcz19_3 : w17.cell? ⟨gb114, 3, none⟩ = some (.slice A0_3 l0_3.length c0_3) := (blk_cell BK114.out 3).trans rfl; have hfz19_0 := blk_frozen BK114.out 0; have hfz19_1 := blk_frozen BK114.out 1; have hfz19_2 := blk_frozen BK114.out 2; have hfz19_3 := blk_frozen BK114.out 3))
          repeat (go_quiet (first | (go_at_call 79; (with_reducible refine (spec_l21All.calls a0_0 _ _ l0_1 _ _ l0_2 _ _ l0_3 t115 _ ?side1 ?side2 ?side3 ?side4 ?side5 ?side6 A14.out).mono ?_); (case side1 => repeat (first | exact (Kd.C_below HR0_1.out HB.out) | (with_reducible refine Kd.C_alloc ?_ _) | (with_reducible refine Kd.C_drewN ?_ _) | (with_reducible refine Kd.C_drew ?_))); (case side2 => exact HC0_1.out); (case side3 => repeat (first | exact (Kd.C_below HR0_2.out HB.out) | (with_reducible refine Kd.C_alloc ?_ _) | (with_reducible refine Kd.C_drewN ?_ _) | (with_reducible refine Kd.C_drew ?_))); (case side4 => exact HC0_2.out); (case side5 => repeat (first | exact (Kd.C_below HR0_3.out HB.out) | (with_reducible refine Kd.C_alloc ?_ _) | (with_reducible refine Kd.C_drewN ?_ _) | (with_reducible refine Kd.C_drew ?_))); (case side6 => exact HC0_3.out); rintro e w17 ⟨v116, rfl, ho0, hb⟩; have n0_ := Aside0.mk (Kd.R_lower ho0 (below_size (by repeat (first | (with_reducible first | exact HB.out | apply below_alloc | apply pw_below_drewN | apply below_drew1 | refine below_set ?_ GE114.out) | exact HB.out)))); have n1_ := Aside0.mk (blk_below (g := gb114) (o := .cells #[.int .i64 a0_0, .slice A0_1 l0_1.length c0_1, .slice A0_2 l0_2.length c0_2, .slice A0_3 l0_3.length c0_3] 26 (0, 0)) (by (with_reducible repeat (first | refine blk_drewN ?_ _ | refine blk_drew ?_ | refine blk_alloc ?_ _)); exact BK114.out) hb); have n2_ := Aside0.mk (below_step (by repeat (first | (with_reducible first | exact HB.out | apply below_alloc | apply pw_below_drewN | apply below_drew1 | refine below_set ?_ GE114.out) | exact HB.out)) hb); clear BK114; clear HB; have HO117 := n0_; have BK114 := n1_; have HB := n2_; clear n0_ n1_ n2_; (try clear hb); (try clear hb2); (try clear hk); (try clear hi); (try clear ho0); obtain ⟨Ao18, co18, eo18⟩ := Kd.R_slice HO117.out; subst eo18; have hcz19_0 : w17.cell? ⟨gb114, 0, none⟩ = some (.int .i64 a0_0) := (blk_cell BK114.out 0).trans rfl; have hcz19_1 : w17.cell? ⟨gb114, 1, none⟩ = some (.slice A0_1 l0_1.length c0_1) := (blk_cell BK114.out 1).trans rfl; have hcz19_2 : w17.cell? ⟨gb114, 2, none⟩ = some (.slice A0_2 l0_2.length c0_2) := (blk_cell BK114.out 2).trans rfl; have hcz19_3 : w17.cell? ⟨gb114, 3, none⟩ = some (.slice A0_3 l0_3.length c0_3) := (blk_cell BK114.out 3).trans rfl; have hfz19_0 := blk_frozen BK114.out 0; have hfz19_1 := blk_frozen BK114.out 1; have hfz19_2 := blk_frozen BK114.out 2; have hfz19_3 := blk_frozen BK114.out 3)); try go_wp2_with (first | (go_at_call 79; (with_reducible refine (spec_l21All.calls a0_0 _ _ l0_1 _ _ l0_2 _ _ l0_3 t115 _ ?side1 ?side2 ?side3 ?side4 ?side5 ?side6 A14.out).mono ?_); (case side1 => repeat (first | exact (Kd.C_below HR0_1.out HB.out) | (with_reducible refine Kd.C_alloc ?_ _) | (with_reducible refine Kd.C_drewN ?_ _) | (with_reducible refine Kd.C_drew ?_))); (case side2 => exact HC0_1.out); (case side3 => repeat (first | exact (Kd.C_below HR0_2.out HB.out) | (with_reducible refine Kd.C_alloc ?_ _) | (with_reducible refine Kd.C_drewN ?_ _) | (with_reducible refine Kd.C_drew ?_))); (case side4 => exact HC0_2.out); (case side5 => repeat (first | exact (Kd.C_below HR0_3.out HB.out) | (with_reducible refine Kd.C_alloc ?_ _) | (with_reducible refine Kd.C_drewN ?_ _) | (with_reducible refine Kd.C_drew ?_))); (case side6 => exact HC0_3.out); rintro e w17 ⟨v116, rfl, ho0, hb⟩; have n0_ := Aside0.mk (Kd.R_lower ho0 (below_size (by repeat (first | (with_reducible first | exact HB.out | apply below_alloc | apply pw_below_drewN | apply below_drew1 | refine below_set ?_ GE114.out) | exact HB.out)))); have n1_ := Aside0.mk (blk_below (g := gb114) (o := .cells #[.int .i64 a0_0, .slice A0_1 l0_1.length c0_1, .slice A0_2 l0_2.length c0_2, .slice A0_3 l0_3.length c0_3] 26 (0, 0)) (by (with_reducible repeat (first | refine blk_drewN ?_ _ | refine blk_drew ?_ | refine blk_alloc ?_ _)); exact BK114.out) hb); have n2_ := Aside0.mk (below_step (by repeat (first | (with_reducible first | exact HB.out | apply below_alloc | apply pw_below_drewN | apply below_drew1 | refine below_set ?_ GE114.out) | exact HB.out)) hb); clear BK114; clear HB; have HO117 := n0_; have BK114 := n1_; have HB := n2_; clear n0_ n1_ n2_; (try clear hb); (try clear hb2); (try clear hk); (try clear hi); (try clear ho0); obtain ⟨Ao18, co18, eo18⟩ := Kd.R_slice HO117.out; subst eo18; have hcz19_0 : w17.cell? ⟨gb114, 0, none⟩ = some (.int .i64 a0_0) := (blk_cell BK114.out 0).trans rfl; have hcz19_1 : w17.cell? ⟨gb114, 1, none⟩ = some (.slice A0_1 l0_1.length c0_1) := (blk_cell BK114.out 1).trans rfl; have hcz19_2 : w17.cell? ⟨gb114, 2, none⟩ = some (.slice A0_2 l0_2.length c0_2) := (blk_cell BK114.out 2).trans rfl; have hcz19_3 : w17.cell? ⟨gb114, 3, none⟩ = some (.slice A0_3 l0_3.length c0_3) := (blk_cell BK114.out 3).trans rfl; have hfz19_0 := blk_frozen BK114.out 0; have hfz19_1 := blk_frozen BK114.out 1; have hfz19_2 := blk_frozen BK114.out 2; have hfz19_3 := blk_frozen BK114.out 3)))
          go_ret
          exact ⟨by first | rfl | (simp [errW_none, errW_some] <;> rfl) | (simp [*, errW_none, errW_some] <;> rfl), by repeat (first | (with_reducible first | exact HB.out | apply below_alloc | apply pw_below_drewN | apply below_drew1 | refine below_set ?_ GE114.out) | exact HB.out)⟩
        · rw [if_neg c15] at H
          have c15b0 : decide (a0_0 < (t115.length : Int)) = false := decide_eq_false c15
          clear c15
          have H' := Aside0.mk H
          clear H
          have hcz20_0 : wc.cell? ⟨gb114, 0, none⟩ = some (.int .i64 a0_0) := (blk_cell BK114.out 0).trans rfl
          have hcz20_1 : wc.cell? ⟨gb114, 1, none⟩ = some (.slice A0_1 l0_1.length c0_1) := (blk_cell BK114.out 1).trans rfl
          have hcz20_2 : wc.cell? ⟨gb114, 2, none⟩ = some (.slice A0_2 l0_2.length c0_2) := (blk_cell BK114.out 2).trans rfl
          have hcz20_3 : wc.cell? ⟨gb114, 3, none⟩ = some (.slice A0_3 l0_3.length c0_3) := (blk_cell BK114.out 3).trans rfl
          have hfz20_0 := blk_frozen BK114.out 0
          have hfz20_1 := blk_frozen BK114.out 1
          have hfz20_2 := blk_frozen BK114.out 2
          have hfz20_3 := blk_frozen BK114.out 3
          go_wp2_with (first | (go_at_call 79; (with_reducible refine (spec_l21All.calls a0_0 _ _ l0_1 _ _ l0_2 _ _ l0_3 t115 _ ?side1 ?side2 ?side3 ?side4 ?side5 ?side6 A14.out).mono ?_); (case side1 => repeat (first | exact (Kd.C_below HR0_1.out HB.out) | (with_reducible refine Kd.C_alloc ?_ _) | (with_reducible refine Kd.C_drewN ?_ _) | (with_reducible refine Kd.C_drew ?_))); (case side2 => exact HC0_1.out); (case side3 => repeat (first | exact (Kd.C_below HR0_2.out HB.out) | (with_reducible refine Kd.C_alloc ?_ _) | (with_reducible refine Kd.C_drewN ?_ _) | (with_reducible refine Kd.C_drew ?_))); (case side4 => exact HC0_2.out); (case side5 => repeat (first | exact (Kd.C_below HR0_3.out HB.out) | (with_reducible refine Kd.C_alloc ?_ _) | (with_reducible refine Kd.C_drewN ?_ _) | (with_reducible refine Kd.C_drew ?_))); (case side6 => exact HC0_3.out); rintro e w21 ⟨v116, rfl, ho0, hb⟩; have n0_ := Aside0.mk (Kd.R_lower ho0 (below_size (by repeat (first | (with_reducible first | exact HB.out | apply below_alloc | apply pw_below_drewN | apply below_drew1 | refine below_set ?_ GE114.out) | exact HB.out)))); have n1_ := Aside0.mk (blk_below (g := gb114) (o := .cells #[.int .i64 a0_0, .slice A0_1 l0_1.length c0_1, .slice A0_2 l0_2.length c0_2, .slice A0_3 l0_3.length c0_3] 26 (0, 0)) (by (with_reducible repeat (first | refine blk_drewN ?_ _ | refine blk_drew ?_ | refine blk_alloc ?_ _)); exact BK114.out) hb); have n2_ := Aside0.mk (below_step (by repeat (first | (with_reducible first | exact HB.out | apply below_alloc | apply pw_below_drewN | apply below_drew1 | refine below_set ?_ GE114.out) | exact HB.out)) hb); clear BK114; clear HB; have HO117 := n0_; have BK114 := n1_; have HB := n2_; clear n0_ n1_ n2_; (try clear hb); (try clear hb2); (try clear hk); (try clear hi); (try clear ho0); obtain ⟨Ao22, co22, eo22⟩ := Kd.R_slice HO117.out; subst eo22; have hcz23_0 : w21.cell? ⟨gb114, 0, none⟩ = some (.int .i64 a0_0) := (blk_cell BK114.out 0).trans rfl; have hcz23_1 : w21.cell? ⟨gb114, 1, none⟩ = some (.slice A0_1 l0_1.length c0_1) := (blk_cell BK114.out 1).trans rfl; have hcz23_2 : w21.cell? ⟨gb114, 2, none⟩ = some (.slice A0_2 l0_2.length c0_2) := (blk_cell BK114.out 2).trans rfl; have hcz23_3 : w21.cell? ⟨gb114, 3, none⟩ = some (.slice A0_3 l0_3.length c0_3) := (blk_cell BK114.out 3).trans rfl; have hfz23_0 := blk_frozen BK114.out 0; have hfz23_1 := blk_frozen BK114.out 1; have hfz23_2 := blk_frozen BK114.out 2; have hfz23_3 := blk_frozen BK114.out 3))
          repeat (go_quiet (first | (go_at_call 79; (with_reducible refine (spec_l21All.calls a0_0 _ _ l0_1 _ _ l0_2 _ _ l0_3 t115 _ ?side1 ?side2 ?side3 ?side4 ?side5 ?side6 A14.out).mono ?_); (case side1 => repeat (first | exact (Kd.C_below HR0_1.out HB.out) | (with_reducible refine Kd.C_alloc ?_ _) | (with_reducible refine Kd.C_drewN ?_ _) | (with_reducible refine Kd.C_drew ?_))); (case side2 => exact HC0_1.out); (case side3 => repeat (first | exact (Kd.C_below HR0_2.out HB.out) | (with_reducible refine Kd.C_alloc ?_ _) | (with_reducible refine Kd.C_drewN ?_ _) | (with_reducible refine Kd.C_drew ?_))); (case side4 => exact HC0_2.out); (case side5 => repeat (first | exact (Kd.C_below HR0_3.out HB.out) | (with_reducible refine Kd.C_alloc ?_ _) | (with_reducible refine Kd.C_drewN ?_ _) | (with_reducible refine Kd.C_drew ?_))); (case side6 => exact HC0_3.out); rintro e w21 ⟨v116, rfl, ho0, hb⟩; have n0_ := Aside0.mk (Kd.R_lower ho0 (below_size (by repeat (first | (with_reducible first | exact HB.out | apply below_alloc | apply pw_below_drewN | apply below_drew1 | refine below_set ?_ GE114.out) | exact HB.out)))); have n1_ := Aside0.mk (blk_below (g := gb114) (o := .cells #[.int .i64 a0_0, .slice A0_1 l0_1.length c0_1, .slice A0_2 l0_2.length c0_2, .slice A0_3 l0_3.length c0_3] 26 (0, 0)) (by (with_reducible repeat (first | refine blk_drewN ?_ _ | refine blk_drew ?_ | refine blk_alloc ?_ _)); exact BK114.out) hb); have n2_ := Aside0.mk (below_step (by repeat (first | (with_reducible first | exact HB.out | apply below_alloc | apply pw_below_drewN | apply below_drew1 | refine below_set ?_ GE114.out) | exact HB.out)) hb); clear BK114; clear HB; have HO117 := n0_; have BK114 := n1_; have HB := n2_; clear n0_ n1_ n2_; (try clear hb); (try clear hb2); (try clear hk); (try clear hi); (try clear ho0); obtain ⟨Ao22, co22, eo22⟩ := Kd.R_slice HO117.out; subst eo22; have hcz23_0 : w21.cell? ⟨gb114, 0, none⟩ = some (.int .i64 a0_0) := (blk_cell BK114.out 0).trans rfl; have hcz23_1 : w21.cell? ⟨gb114, 1, none⟩ = some (.slice A0_1 l0_1.length c0_1) := (blk_cell BK114.out 1).trans rfl; have hcz23_2 : w21.cell? ⟨gb114, 2, none⟩ = some (.slice A0_2 l0_2.length c0_2) := (blk_cell BK114.out 2).trans rfl; have hcz23_3 : w21.cell? ⟨gb114, 3, none⟩ = some (.slice A0_3 l0_3.length c0_3) := (blk_cell BK114.out 3).trans rfl; have hfz23_0 := blk_frozen BK114.out 0; have hfz23_1 := blk_frozen BK114.out 1; have hfz23_2 := blk_frozen BK114.out 2; have hfz23_3 := blk_frozen BK114.out 3)); try go_wp2_with (first | (go_at_call 79; (with_reducible refine (spec_l21All.calls a0_0 _ _ l0_1 _ _ l0_2 _ _ l0_3 t115 _ ?side1 ?side2 ?side3 ?side4 ?side5 ?side6 A14.out).mono ?_); (case side1 => repeat (first | exact (Kd.C_below HR0_1.out HB.out) | (with_reducible refine Kd.C_alloc ?_ _) | (with_reducible refine Kd.C_drewN ?_ _) | (with_reducible refine Kd.C_drew ?_))); (case side2 => exact HC0_1.out); (case side3 => repeat (first | exact (Kd.C_below HR0_2.out HB.out) | (with_reducible refine Kd.C_alloc ?_ _) | (with_reducible refine Kd.C_drewN ?_ _) | (with_reducible refine Kd.C_drew ?_))); (case side4 => exact HC0_2.out); (case side5 => repeat (first | exact (Kd.C_below HR0_3.out HB.out) | (with_reducible refine Kd.C_alloc ?_ _) | (with_reducible refine Kd.C_drewN ?_ _) | (with_reducible refine Kd.C_drew ?_))); (case side6 => exact HC0_3.out); rintro e w21 ⟨v116, rfl, ho0, hb⟩; have n0_ := Aside0.mk (Kd.R_lower ho0 (below_size (by repeat (first | (with_reducible first | exact HB.out | apply below_alloc | apply pw_below_drewN | apply below_drew1 | refine below_set ?_ GE114.out) | exact HB.out)))); have n1_ := Aside0.mk (blk_below (g := gb114) (o := .cells #[.int .i64 a0_0, .slice A0_1 l0_1.length c0_1, .slice A0_2 l0_2.length c0_2, .slice A0_3 l0_3.length c0_3] 26 (0, 0)) (by (with_reducible repeat (first | refine blk_drewN ?_ _ | refine blk_drew ?_ | refine blk_alloc ?_ _)); exact BK114.out) hb); have n2_ := Aside0.mk (below_step (by repeat (first | (with_reducible first | exact HB.out | apply below_alloc | apply pw_below_drewN | apply below_drew1 | refine below_set ?_ GE114.out) | exact HB.out)) hb); clear BK114; clear HB; have HO117 := n0_; have BK114 := n1_; have HB := n2_; clear n0_ n1_ n2_; (try clear hb); (try clear hb2); (try clear hk); (try clear hi); (try clear ho0); obtain ⟨Ao22, co22, eo22⟩ := Kd.R_slice HO117.out; subst eo22; have hcz23_0 : w21.cell? ⟨gb114, 0, none⟩ = some (.int .i64 a0_0) := (blk_cell BK114.out 0).trans rfl; have hcz23_1 : w21.cell? ⟨gb114, 1, none⟩ = some (.slice A0_1 l0_1.length c0_1) := (blk_cell BK114.out 1).trans rfl; have hcz23_2 : w21.cell? ⟨gb114, 2, none⟩ = some (.slice A0_2 l0_2.length c0_2) := (blk_cell BK114.out 2).trans rfl; have hcz23_3 : w21.cell? ⟨gb114, 3, none⟩ = some (.slice A0_3 l0_3.length c0_3) := (blk_cell BK114.out 3).trans rfl; have hfz23_0 := blk_frozen BK114.out 0; have hfz23_1 := blk_frozen BK114.out 1; have hfz23_2 := blk_frozen BK114.out 2; have hfz23_3 := blk_frozen BK114.out 3)))
          go_loopg [4] kj1 (fun kq v4 w' => ∃ (x4_2 : Int), v4 = .int .i64 x4_2 ∧ Aside0 (spec_LineOk.l0 kq t115 x4_2 a0_0 l0_1 l0_2 l0_3 = some r) ∧ Aside0 (kq ≤ kj1) ∧ Aside0 (Kd.R k109 109 w' w.heap.size (fun _ => True) (.slice Ao22 t115.length co22) t115) ∧ Aside0 (w'.heap[gb114]? = some (.cells #[.int .i64 a0_0, (.slice A0_1 l0_1.length c0_1), (.slice A0_2 l0_2.length c0_2), (.slice A0_3 l0_3.length c0_3)] 26 (0, 0))) ∧ Aside0 (Below w.heap.size w w'))
          case atStart => exact ⟨(0), (by first | rfl | (simp; done) | (simp [*]; done)), H', ⟨Nat.le_refl _⟩, ⟨by (with_reducible repeat (first | apply Kd.R_alloc | apply Kd.R_drewN | apply Kd.R_drew)); exact HO117.out⟩, ⟨by (with_reducible repeat (first | refine blk_drewN ?_ _ | refine blk_drew ?_ | refine blk_alloc ?_ _)); exact BK114.out⟩, ⟨by repeat (first | (with_reducible first | exact HB.out | apply below_alloc | apply pw_below_drewN | apply below_drew1 | refine below_set ?_ GE114.out) | exact HB.out)⟩⟩
          case round =>
            clear H'
            try clear c1
            try clear c2
            try clear p2
            try clear c4
            try clear c4b0
            try clear c6
            try clear c6b0
            try clear c8
            try clear c8b0
            try clear c10
            try clear c10b0
            try clear c13
            try clear c15
            try clear c15b0
            try clear hcz11_0
            try clear hcz11_1
            try clear hcz11_2
            try clear hcz11_3
            try clear hcz12_0
            try clear hcz12_1
            try clear hcz12_2
            try clear hcz12_3
            try clear hcz16_0
            try clear hcz16_1
            try clear hcz16_2
            try clear hcz16_3
            try clear hcz19_0
            try clear hcz19_1
            try clear hcz19_2
            try clear hcz19_3
            try clear hcz20_0
            try clear hcz20_1
            try clear hcz20_2
            try clear hcz20_3
            try clear hcz23_0
            try clear hcz23_1
            try clear hcz23_2
            try clear hcz23_3
            try clear hcz5_0
            try clear hcz5_1
            try clear hcz5_2
            try clear hcz5_3
            try clear hcz7_0
            try clear hcz7_1
            try clear hcz7_2
            try clear hcz7_3
            try clear hcz9_0
            try clear hcz9_1
            try clear hcz9_2
            try clear hcz9_3
            try clear hfz11_0
            try clear hfz11_1
            try clear hfz11_2
            try clear hfz11_3
            try clear hfz12_0
            try clear hfz12_1
            try clear hfz12_2
            try clear hfz12_3
            try clear hfz16_0
            try clear hfz16_1
            try clear hfz16_2
            try clear hfz16_3
            try clear hfz19_0
            try clear hfz19_1
            try clear hfz19_2
            try clear hfz19_3
            try clear hfz20_0
            try clear hfz20_1
            try clear hfz20_2
            try clear hfz20_3
            try clear hfz23_0
            try clear hfz23_1
            try clear hfz23_2
            try clear hfz23_3
            try clear hfz5_0
            try clear hfz5_1
            try clear hfz5_2
            try clear hfz5_3
            try clear hfz7_0
            try clear hfz7_1
            try clear hfz7_2
            try clear hfz7_3
            try clear hfz9_0
            try clear hfz9_1
            try clear hfz9_2
            try clear hfz9_3
            try clear p2
            obtain ⟨x4_2, rfl, HA, HK2, HO_3, BK114, HB⟩ := hrel
            cases gk with
            | zero => exact absurd HA.out (by simp [spec_LineOk.l0])
            | succ k2 =>
              have H := HA.out
              clear HA
              simp only [spec_LineOk.l0] at H
              by_cases c24 : x4_2 < (t115.length : Int)
              · rw [if_pos c24] at H
                have c24b0 : decide (x4_2 < (t115.length : Int)) = true := decide_eq_true c24
                clear c24
                have HC25 := Aside0.mk H
                clear H
                go_upto_region 9 with (fail)
                repeat (go_quiet (fail); go_upto_region 9 with (fail))
                go_cut [66] (fun v66 wc => ∃ (kq : Nat) (x66_24 : Bool), v66 = .bool x66_24 ∧ Aside0 (spec_LineOk.j2 kq t115 x4_2 x66_24 a0_0 l0_1 l0_2 l0_3 = some r) ∧ Aside0 (kq ≤ k2) ∧ Aside0 (Kd.R k109 109 wc w.heap.size (fun _ => True) (.slice Ao22 t115.length co22) t115) ∧ Aside0 (wc.heap[gb114]? = some (.cells #[.int .i64 a0_0, (.slice A0_1 l0_1.length c0_1), (.slice A0_2 l0_2.length c0_2), (.slice A0_3 l0_3.length c0_3)] 26 (0, 0))) ∧ Aside0 (Below w.heap.size w wc))
                case first =>
                  have H := HC25.out
                  clear HC25
                  by_cases c26 : 0 ≤ x4_2
                  · rw [if_pos c26] at H
                    have c26b0 : decide (0 ≤ x4_2) = true := decide_eq_true c26
                    clear c26
                    (first | rw [c26b0] | (simp only [i64_w, i32_w]; rw [c26b0]) | skip)
                    by_cases c27 : ((rd_T109 t115 x4_2).f0) < 0
                    · rw [if_pos c27] at H
                      have c27b0 : decide (((rd_T109 t115 x4_2).f0) < 0) = true := decide_eq_true c27
                      clear c27
                      have H' := Aside0.mk H
                      clear H
                      have p118 : 0 ≤ (x4_2 : Int) := of_decide_eq_true (by first | (with_reducible assumption) | assumption)
                      have q118 : x4_2 < (t115.length : Int) := of_decide_eq_true (by first | (with_reducible assumption) | assumption)
                      obtain ⟨ad118, e118, hx118_0, hx118_1, hx118_2, hx118_3⟩ := at_T109 (Kd.R_reads' HO_3.out).2.2 x4_2 p118 q118
                      cases e118
                      replace p118 := eq_true p118
                      replace q118 := eq_true q118
                      go_wp2
                      repeat (go_quiet (fail); try go_wp2)
                      go_meet
                      case rel => exact ⟨_, (true), (by first | rfl | (simp; done) | (simp [*]; done)), H', ⟨by have := HJ1.out; have := HK2.out; first | omega | exact Nat.le_refl _⟩, ⟨by (with_reducible repeat (first | apply Kd.R_alloc | apply Kd.R_drewN | apply Kd.R_drew)); exact HO_3.out⟩, ⟨by (with_reducible repeat (first | refine blk_drewN ?_ _ | refine blk_drew ?_ | refine blk_alloc ?_ _)); exact BK114.out⟩, ⟨by repeat (first | (with_reducible first | exact HB.out | apply below_alloc | apply pw_below_drewN | apply below_drew1 | refine below_set ?_ GE114.out) | exact HB.out)⟩⟩
                    · rw [if_neg c27] at H
                      have c27b0 : decide (((rd_T109 t115 x4_2).f0) < 0) = false := decide_eq_false c27
                      clear c27
                      have H' := Aside0.mk H
                      clear H
                      have p118 : 0 ≤ (x4_2 : Int) := of_decide_eq_true (by first | (with_reducible assumption) | assumption)
                      have q118 : x4_2 < (t115.length : Int) := of_decide_eq_true (by first | (with_reducible assumption) | assumption)
                      obtain ⟨ad118, e118, hx118_0, hx118_1, hx118_2, hx118_3⟩ := at_T109 (Kd.R_reads' HO_3.out).2.2 x4_2 p118 q118
                      cases e118
                      replace p118 := eq_true p118
                      replace q118 := eq_true q118
                      have p119 : 0 ≤ (x4_2 : Int) := of_decide_eq_true (by first | (with_reducible assumption) | assumption)
                      have q119 : x4_2 < (t115.length : Int) := of_decide_eq_true (by first | (with_reducible assumption) | assumption)
                      obtain ⟨ad119, e119, hx119_0, hx119_1, hx119_2, hx119_3⟩ := at_T109 (Kd.R_reads' HO_3.out).2.2 x4_2 p119 q119
                      obtain rfl : ad118 = ad119 := (by injection e119)
                      replace p119 := eq_true p119
                      replace q119 := eq_true q119
                      go_wp2
                      repeat (go_quiet (fail); try go_wp2)
                      go_meet
                      case rel => exact ⟨_, (decide (((rd_T109 t115 x4_2).f0) > 1000000000000)), (by first | rfl | (simp; done) | (simp [*]; done)), H', ⟨by have := HJ1.out; have := HK2.out; first | omega | exact Nat.le_refl _⟩, ⟨by (with_reducible repeat (first | apply Kd.R_alloc | apply Kd.R_drewN | apply Kd.R_drew)); exact HO_3.out⟩, ⟨by (with_reducible repeat (first | refine blk_drewN ?_ _ | refine blk_drew ?_ | refine blk_alloc ?_ _)); exact BK114.out⟩, ⟨by repeat (first | (with_reducible first | exact HB.out | apply below_alloc | apply pw_below_drewN | apply below_drew1 | refine below_set ?_ GE114.out) | exact HB.out)⟩⟩
                  · rw [if_neg c26] at H
                    exact absurd H (by simp)
                case rest =>
                  clear HC25
                  try clear c1
                  try clear p1
                  try clear q1
                  try clear hx1
                  try clear c2
                  try clear p2
                  try clear c4
                  try clear c4b0
                  try clear c6
                  try clear c6b0
                  try clear c8
                  try clear c8b0
                  try clear c10
                  try clear c10b0
                  try clear p11
                  try clear q11
                  try clear hx11
                  try clear c13
                  try clear c15
                  try clear c15b0
                  try clear c24
                  try clear c24b0
                  try clear c26
                  try clear c26b0
                  try clear c27
                  try clear c27b0
                  try clear hcz11_0
                  try clear hcz11_1
                  try clear hcz11_2
                  try clear hcz11_3
                  try clear hcz12_0
                  try clear hcz12_1
                  try clear hcz12_2
                  try clear hcz12_3
                  try clear hcz16_0
                  try clear hcz16_1
                  try clear hcz16_2
                  try clear hcz16_3
                  try clear hcz19_0
                  try clear hcz19_1
                  try clear hcz19_2
                  try clear hcz19_3
                  try clear hcz20_0
                  try clear hcz20_1
                  try clear hcz20_2
                  try clear hcz20_3
                  try clear hcz23_0
                  try clear hcz23_1
                  try clear hcz23_2
                  try clear hcz23_3
                  try clear hcz5_0
                  try clear hcz5_1
                  try clear hcz5_2
                  try clear hcz5_3
                  try clear hcz7_0
                  try clear hcz7_1
                  try clear hcz7_2
                  try clear hcz7_3
                  try clear hcz9_0
                  try clear hcz9_1
                  try clear hcz9_2
                  try clear hcz9_3
                  try clear hfz11_0
                  try clear hfz11_1
                  try clear hfz11_2
                  try clear hfz11_3
                  try clear hfz12_0
                  try clear hfz12_1
                  try clear hfz12_2
                  try clear hfz12_3
                  try clear hfz16_0
                  try clear hfz16_1
                  try clear hfz16_2
                  try clear hfz16_3
                  try clear hfz19_0
                  try clear hfz19_1
                  try clear hfz19_2
                  try clear hfz19_3
                  try clear hfz20_0
                  try clear hfz20_1
                  try clear hfz20_2
                  try clear hfz20_3
                  try clear hfz23_0
                  try clear hfz23_1
                  try clear hfz23_2
                  try clear hfz23_3
                  try clear hfz5_0
                  try clear hfz5_1
                  try clear hfz5_2
                  try clear hfz5_3
                  try clear hfz7_0
                  try clear hfz7_1
                  try clear hfz7_2
                  try clear hfz7_3
                  try clear hfz9_0
                  try clear hfz9_1
                  try clear hfz9_2
                  try clear hfz9_3
                  try clear hx118_0
                  try clear hx118_1
                  try clear hx118_2
                  try clear hx118_3
                  try clear hx119_0
                  try clear hx119_1
                  try clear hx119_2
                  try clear hx119_3
                  try clear p118
                  try clear p119
                  try clear p2
                  try clear q118
                  try clear q119
                  obtain ⟨kq, x66_24, rfl, HA, HJ24, HO_3, BK114, HB⟩ := hcut
                  cases kq with
                  | zero => exact absurd HA.out (by simp [spec_LineOk.j2])
                  | succ kj24 =>
                    have H := HA.out
                    clear HA
                    simp only [spec_LineOk.j2] at H
                    by_cases c28 : x66_24 = true
                    · subst c28
                      have H1 : (some false) = some r := by rw [if_pos rfl] at H; exact H
                      clear H
                      have H := H1
                      clear H1
                      obtain rfl := Option.some.inj H
                      go_wp2
                      repeat (go_quiet (fail); try go_wp2)
                      go_ret
                      exact ⟨by first | rfl | (simp [errW_none, errW_some] <;> rfl) | (simp [*, errW_none, errW_some] <;> rfl), by repeat (first | (with_reducible first | exact HB.out | apply below_alloc | apply pw_below_drewN | apply below_drew1 | refine below_set ?_ GE114.out) | exact HB.out)⟩
                    · replace c28 := Bool.eq_false_iff.mpr c28
                      subst c28
                      have H1 : (spec_LineOk.l1 kj24 t115 x4_2 0 a0_0 l0_1 l0_2 l0_3) = some r := by rw [if_neg (show ¬ (false = true) by decide)] at H; exact H
                      clear H
                      have H := H1
                      clear H1
                      have H' := Aside0.mk H
                      clear H
                      go_wp2
                      repeat (go_quiet (fail); try go_wp2)
                      go_loopg [5] kj24 (fun kq v5 w' => ∃ (x5_4 : Int), v5 = .int .i64 x5_4 ∧ Aside0 (spec_LineOk.l1 kq t115 x4_2 x5_4 a0_0 l0_1 l0_2 l0_3 = some r) ∧ Aside0 (kq ≤ kj24) ∧ Aside0 (Kd.R k109 109 w' w.heap.size (fun _ => True) (.slice Ao22 t115.length co22) t115) ∧ Aside0 (w'.heap[gb114]? = some (.cells #[.int .i64 a0_0, (.slice A0_1 l0_1.length c0_1), (.slice A0_2 l0_2.length c0_2), (.slice A0_3 l0_3.length c0_3)] 26 (0, 0))) ∧ Aside0 (Below w.heap.size w w'))
                      case atStart => exact ⟨(0), (by first | rfl | (simp; done) | (simp [*]; done)), H', ⟨Nat.le_refl _⟩, ⟨by (with_reducible repeat (first | apply Kd.R_alloc | apply Kd.R_drewN | apply Kd.R_drew)); exact HO_3.out⟩, ⟨by (with_reducible repeat (first | refine blk_drewN ?_ _ | refine blk_drew ?_ | refine blk_alloc ?_ _)); exact BK114.out⟩, ⟨by repeat (first | (with_reducible first | exact HB.out | apply below_alloc | apply pw_below_drewN | apply below_drew1 | refine below_set ?_ GE114.out) | exact HB.out)⟩⟩
                      case round =>
                        clear H'
                        try clear c1
                        try clear p1
                        try clear q1
                        try clear hx1
                        try clear c2
                        try clear p2
                        try clear c4
                        try clear c4b0
                        try clear c6
                        try clear c6b0
                        try clear c8
                        try clear c8b0
                        try clear c10
                        try clear c10b0
                        try clear p11
                        try clear q11
                        try clear hx11
                        try clear c13
                        try clear c15
                        try clear c15b0
                        try clear c24
                        try clear c24b0
                        try clear c26
                        try clear c26b0
                        try clear c27
                        try clear c27b0
                        try clear c28
                        try clear hcz11_0
                        try clear hcz11_1
                        try clear hcz11_2
                        try clear hcz11_3
                        try clear hcz12_0
                        try clear hcz12_1
                        try clear hcz12_2
                        try clear hcz12_3
                        try clear hcz16_0
                        try clear hcz16_1
                        try clear hcz16_2
                        try clear hcz16_3
                        try clear hcz19_0
                        try clear hcz19_1
                        try clear hcz19_2
                        try clear hcz19_3
                        try clear hcz20_0
                        try clear hcz20_1
                        try clear hcz20_2
                        try clear hcz20_3
                        try clear hcz23_0
                        try clear hcz23_1
                        try clear hcz23_2
                        try clear hcz23_3
                        try clear hcz5_0
                        try clear hcz5_1
                        try clear hcz5_2
                        try clear hcz5_3
                        try clear hcz7_0
                        try clear hcz7_1
                        try clear hcz7_2
                        try clear hcz7_3
                        try clear hcz9_0
                        try clear hcz9_1
                        try clear hcz9_2
                        try clear hcz9_3
                        try clear hfz11_0
                        try clear hfz11_1
                        try clear hfz11_2
                        try clear hfz11_3
                        try clear hfz12_0
                        try clear hfz12_1
                        try clear hfz12_2
                        try clear hfz12_3
                        try clear hfz16_0
                        try clear hfz16_1
                        try clear hfz16_2
                        try clear hfz16_3
                        try clear hfz19_0
                        try clear hfz19_1
                        try clear hfz19_2
                        try clear hfz19_3
                        try clear hfz20_0
                        try clear hfz20_1
                        try clear hfz20_2
                        try clear hfz20_3
                        try clear hfz23_0
                        try clear hfz23_1
                        try clear hfz23_2
                        try clear hfz23_3
                        try clear hfz5_0
                        try clear hfz5_1
                        try clear hfz5_2
                        try clear hfz5_3
                        try clear hfz7_0
                        try clear hfz7_1
                        try clear hfz7_2
                        try clear hfz7_3
                        try clear hfz9_0
                        try clear hfz9_1
                        try clear hfz9_2
                        try clear hfz9_3
                        try clear hx118_0
                        try clear hx118_1
                        try clear hx118_2
                        try clear hx118_3
                        try clear hx119_0
                        try clear hx119_1
                        try clear hx119_2
                        try clear hx119_3
                        try clear p1
                        try clear p11
                        try clear p118
                        try clear p119
                        try clear p2
                        try clear q1
                        try clear q11
                        try clear q118
                        try clear q119
                        obtain ⟨x5_4, rfl, HA, HK4, HO_3, BK114, HB⟩ := hrel
                        cases gk with
                        | zero => exact absurd HA.out (by simp [spec_LineOk.l1])
                        | succ k4 =>
                          have H := HA.out
                          clear HA
                          simp only [spec_LineOk.l1] at H
                          by_cases c29 : x5_4 < x4_2
                          · rw [if_pos c29] at H
                            have c29b0 : decide (x5_4 < x4_2) = true := decide_eq_true c29
                            clear c29
                            by_cases c30 : 0 ≤ x5_4
                            · rw [if_pos c30] at H
                              have c30b0 : decide (0 ≤ x5_4) = true := decide_eq_true c30
                              clear c30
                              by_cases c31 : x5_4 < (t115.length : Int)
                              · rw [if_pos c31] at H
                                have c31b0 : decide (x5_4 < (t115.length : Int)) = true := decide_eq_true c31
                                clear c31
                                by_cases c32 : 0 ≤ x4_2
                                · rw [if_pos c32] at H
                                  have c32b0 : decide (0 ≤ x4_2) = true := decide_eq_true c32
                                  clear c32
                                  by_cases c33 : x4_2 < (t115.length : Int)
                                  · rw [if_pos c33] at H
                                    have c33b0 : decide (x4_2 < (t115.length : Int)) = true := decide_eq_true c33
                                    clear c33
                                    by_cases c34 : ((rd_T109 t115 x5_4).f0) = ((rd_T109 t115 x4_2).f0)
                                    · rw [if_pos c34] at H
                                      have c34b0 : (((rd_T109 t115 x5_4).f0) == ((rd_T109 t115 x4_2).f0)) = true := beq_iff_eq.mpr c34
                                      have c34b1 : (((rd_T109 t115 x5_4).f0) != ((rd_T109 t115 x4_2).f0)) = false := bne_eq_false_iff_eq.mpr c34
                                      clear c34
                                      obtain rfl := Option.some.inj H
                                      have p120 : 0 ≤ (x5_4 : Int) := of_decide_eq_true (by first | (with_reducible assumption) | assumption)
                                      have q120 : x5_4 < (t115.length : Int) := of_decide_eq_true (by first | (with_reducible assumption) | assumption)
                                      obtain ⟨ad120, e120, hx120_0, hx120_1, hx120_2, hx120_3⟩ := at_T109 (Kd.R_reads' HO_3.out).2.2 x5_4 p120 q120
                                      cases e120
                                      replace p120 := eq_true p120
                                      replace q120 := eq_true q120
                                      have p121 : 0 ≤ (x4_2 : Int) := of_decide_eq_true (by first | (with_reducible assumption) | assumption)
                                      have q121 : x4_2 < (t115.length : Int) := of_decide_eq_true (by first | (with_reducible assumption) | assumption)
                                      obtain ⟨ad121, e121, hx121_0, hx121_1, hx121_2, hx121_3⟩ := at_T109 (Kd.R_reads' HO_3.out).2.2 x4_2 p121 q121
                                      obtain rfl : ad120 = ad121 := (by injection e121)
                                      replace p121 := eq_true p121
                                      replace q121 := eq_true q121
                                      go_wp2
                                      repeat (go_quiet (fail); try go_wp2)
                                      go_ret
                                      exact ⟨by first | rfl | (simp [errW_none, errW_some] <;> rfl) | (simp [*, errW_none, errW_some] <;> rfl), by repeat (first | (with_reducible first | exact HB.out | apply below_alloc | apply pw_below_drewN | apply below_drew1 | refine below_set ?_ GE114.out) | exact HB.out)⟩
                                    · rw [if_neg c34] at H
                                      have c34b0 : (((rd_T109 t115 x5_4).f0) == ((rd_T109 t115 x4_2).f0)) = false := beq_eq_false_iff_ne.mpr c34
                                      have c34b1 : (((rd_T109 t115 x5_4).f0) != ((rd_T109 t115 x4_2).f0)) = true := bne_iff_ne.mpr c34
                                      have H' := Aside0.mk H
                                      clear H
                                      have p120 : 0 ≤ (x5_4 : Int) := of_decide_eq_true (by first | (with_reducible assumption) | assumption)
                                      have q120 : x5_4 < (t115.length : Int) := of_decide_eq_true (by first | (with_reducible assumption) | assumption)
                                      obtain ⟨ad120, e120, hx120_0, hx120_1, hx120_2, hx120_3⟩ := at_T109 (Kd.R_reads' HO_3.out).2.2 x5_4 p120 q120
                                      cases e120
                                      replace p120 := eq_true p120
                                      replace q120 := eq_true q120
                                      have p121 : 0 ≤ (x4_2 : Int) := of_decide_eq_true (by first | (with_reducible assumption) | assumption)
                                      have q121 : x4_2 < (t115.length : Int) := of_decide_eq_true (by first | (with_reducible assumption) | assumption)
                                      obtain ⟨ad121, e121, hx121_0, hx121_1, hx121_2, hx121_3⟩ := at_T109 (Kd.R_reads' HO_3.out).2.2 x4_2 p121 q121
                                      obtain rfl : ad120 = ad121 := (by injection e121)
                                      replace p121 := eq_true p121
                                      replace q121 := eq_true q121
                                      go_wp2
                                      repeat (go_quiet (fail); try go_wp2)
                                      go_roundg k4
                                      case measure => have := HJ1.out; have := HK2.out; have := HJ24.out; have := HK4.out; omega
                                      case rel => exact ⟨(wrap64 (x5_4 + 1)), (by first | rfl | (simp; done) | (simp [*]; done)), H', ⟨by have := HJ1.out; have := HK2.out; have := HJ24.out; have := HK4.out; omega⟩, ⟨by (with_reducible repeat (first | apply Kd.R_alloc | apply Kd.R_drewN | apply Kd.R_drew)); exact HO_3.out⟩, ⟨by (with_reducible repeat (first | refine blk_drewN ?_ _ | refine blk_drew ?_ | refine blk_alloc ?_ _)); exact BK114.out⟩, ⟨by repeat (first | (with_reducible first | exact HB.out | apply below_alloc | apply pw_below_drewN | apply below_drew1 | refine below_set ?_ GE114.out) | exact HB.out)⟩⟩
                                  · rw [if_neg c33] at H
                                    exact absurd H (by simp)
                                · rw [if_neg c32] at H
                                  exact absurd H (by simp)
                              · rw [if_neg c31] at H
                                exact absurd H (by simp)
                            · rw [if_neg c30] at H
                              exact absurd H (by simp)
                          · rw [if_neg c29] at H
                            have c29b0 : decide (x5_4 < x4_2) = false := decide_eq_false c29
                            clear c29
                            by_cases c35 : 0 ≤ x4_2
                            · rw [if_pos c35] at H
                              have c35b0 : decide (0 ≤ x4_2) = true := decide_eq_true c35
                              clear c35
                              by_cases c36 : x4_2 < (t115.length : Int)
                              · rw [if_pos c36] at H
                                have c36b0 : decide (x4_2 < (t115.length : Int)) = true := decide_eq_true c36
                                clear c36
                                have HC37 := Aside0.mk H
                                clear H
                                have p122 : 0 ≤ (x4_2 : Int) := of_decide_eq_true (by first | (with_reducible assumption) | assumption)
                                have q122 : x4_2 < (t115.length : Int) := of_decide_eq_true (by first | (with_reducible assumption) | assumption)
                                obtain ⟨ad122, e122, hx122_0, hx122_1, hx122_2, hx122_3⟩ := at_T109 (Kd.R_reads' HO_3.out).2.2 x4_2 p122 q122
                                cases e122
                                replace p122 := eq_true p122
                                replace q122 := eq_true q122
                                go_upto_if 92 with (first | ((with_reducible refine gate_dst (N := 6) rfl ?_); (try (refine gate_guard (by rfl) ?_; dsimp only)); refine box_event ?hg (N := 6) ?hd (cs := #[.int .i64 0, .int .i64 0, .int .i64 0]) (t := 49) ?hr ?_; (case hd => rfl); (case hg => rfl); (case hr => first | (go_simp; done) | (go_simp; rfl)); intro gb123 hg w38 hbox hb; have n0_ := Aside0.mk (Kd.R_below (by (with_reducible repeat (first | apply Kd.R_alloc | apply Kd.R_drewN | apply Kd.R_drew)); exact HO_3.out) hb); have n1_ := Aside0.mk (blk_below (g := gb114) (o := .cells #[.int .i64 a0_0, .slice A0_1 l0_1.length c0_1, .slice A0_2 l0_2.length c0_2, .slice A0_3 l0_3.length c0_3] 26 (0, 0)) (by (with_reducible repeat (first | refine blk_drewN ?_ _ | refine blk_drew ?_ | refine blk_alloc ?_ _)); exact BK114.out) hb); have n2_ := Aside0.mk (below_step (by repeat (first | (with_reducible first | exact HB.out | apply below_alloc | apply pw_below_drewN | apply below_drew1 | refine below_set ?_ GE114.out) | exact HB.out)) hb); have n3_ := Aside0.mk (hbox); have n4_ := Aside0.mk ((by rw [hg]; exact (below_size (by repeat (first | (with_reducible first | exact HB.out | apply below_alloc | apply pw_below_drewN | apply below_drew1 | refine below_set ?_ GE114.out) | exact HB.out))) : w.heap.size ≤ gb123)); have n5_ := Aside0.mk ((by rw [hg]; exact (below_size (by repeat (first | (with_reducible first | exact HB.out | apply below_alloc | apply pw_below_drewN | apply below_drew1 | refine below_set ?_ GE114.out) | exact HB.out))) : w.heap.size ≤ gb123)); have n6_ := Aside0.mk ((by rw [hg]; exact Nat.ne_of_lt (blk_lt (g := gb114) (o := .cells #[.int .i64 a0_0, .slice A0_1 l0_1.length c0_1, .slice A0_2 l0_2.length c0_2, .slice A0_3 l0_3.length c0_3] 26 (0, 0)) (by (with_reducible repeat (first | refine blk_drewN ?_ _ | refine blk_drew ?_ | refine blk_alloc ?_ _)); exact BK114.out)) : gb114 ≠ gb123)); have n7_ := Aside0.mk ((by rw [hg]; exact Nat.ne_of_gt (blk_lt (g := gb114) (o := .cells #[.int .i64 a0_0, .slice A0_1 l0_1.length c0_1, .slice A0_2 l0_2.length c0_2, .slice A0_3 l0_3.length c0_3] 26 (0, 0)) (by (with_reducible repeat (first | refine blk_drewN ?_ _ | refine blk_drew ?_ | refine blk_alloc ?_ _)); exact BK114.out)) : gb123 ≠ gb114)); clear HO_3; clear BK114; clear HB; have HO_3 := n0_; have BK114 := n1_; have HB := n2_; have BK123 := n3_; have GW123 := n4_; have GE123 := n5_; have NB114_123 := n6_; have NB123_114 := n7_; clear n0_ n1_ n2_ n3_ n4_ n5_ n6_ n7_; clear hb hbox hg; have hnb39 := NB123_114.out; have hnc39 := NB114_123.out; have hcz40_0 : w38.cell? ⟨gb123, 0, none⟩ = some (.int .i64 0) := (blk_cell BK123.out 0).trans rfl; have hcz40_1 : w38.cell? ⟨gb123, 1, none⟩ = some (.int .i64 0) := (blk_cell BK123.out 1).trans rfl; have hcz40_2 : w38.cell? ⟨gb123, 2, none⟩ = some (.int .i64 0) := (blk_cell BK123.out 2).trans rfl; have hfz40_0 := blk_frozen BK123.out 0; have hfz40_1 := blk_frozen BK123.out 1; have hfz40_2 := blk_frozen BK123.out 2; have hcz41_0 : w38.cell? ⟨gb114, 0, none⟩ = some (.int .i64 a0_0) := (blk_cell BK114.out 0).trans rfl; have hcz41_1 : w38.cell? ⟨gb114, 1, none⟩ = some (.slice A0_1 l0_1.length c0_1) := (blk_cell BK114.out 1).trans rfl; have hcz41_2 : w38.cell? ⟨gb114, 2, none⟩ = some (.slice A0_2 l0_2.length c0_2) := (blk_cell BK114.out 2).trans rfl; have hcz41_3 : w38.cell? ⟨gb114, 3, none⟩ = some (.slice A0_3 l0_3.length c0_3) := (blk_cell BK114.out 3).trans rfl; have hfz41_0 := blk_frozen BK114.out 0; have hfz41_1 := blk_frozen BK114.out 1; have hfz41_2 := blk_frozen BK114.out 2; have hfz41_3 := blk_frozen BK114.out 3))
                                repeat (go_quiet (first | ((with_reducible refine gate_dst (N := 6) rfl ?_); (try (refine gate_guard (by rfl) ?_; dsimp only)); refine box_event ?hg (N := 6) ?hd (cs := #[.int .i64 0, .int .i64 0, .int .i64 0]) (t := 49) ?hr ?_; (case hd => rfl); (case hg => rfl); (case hr => first | (go_simp; done) | (go_simp; rfl)); intro gb123 hg w38 hbox hb; have n0_ := Aside0.mk (Kd.R_below (by (with_reducible repeat (first | apply Kd.R_alloc | apply Kd.R_drewN | apply Kd.R_drew)); exact HO_3.out) hb); have n1_ := Aside0.mk (blk_below (g := gb114) (o := .cells #[.int .i64 a0_0, .slice A0_1 l0_1.length c0_1, .slice A0_2 l0_2.length c0_2, .slice A0_3 l0_3.length c0_3] 26 (0, 0)) (by (with_reducible repeat (first | refine blk_drewN ?_ _ | refine blk_drew ?_ | refine blk_alloc ?_ _)); exact BK114.out) hb); have n2_ := Aside0.mk (below_step (by repeat (first | (with_reducible first | exact HB.out | apply below_alloc | apply pw_below_drewN | apply below_drew1 | refine below_set ?_ GE114.out) | exact HB.out)) hb); have n3_ := Aside0.mk (hbox); have n4_ := Aside0.mk ((by rw [hg]; exact (below_size (by repeat (first | (with_reducible first | exact HB.out | apply below_alloc | apply pw_below_drewN | apply below_drew1 | refine below_set ?_ GE114.out) | exact HB.out))) : w.heap.size ≤ gb123)); have n5_ := Aside0.mk ((by rw [hg]; exact (below_size (by repeat (first | (with_reducible first | exact HB.out | apply below_alloc | apply pw_below_drewN | apply below_drew1 | refine below_set ?_ GE114.out) | exact HB.out))) : w.heap.size ≤ gb123)); have n6_ := Aside0.mk ((by rw [hg]; exact Nat.ne_of_lt (blk_lt (g := gb114) (o := .cells #[.int .i64 a0_0, .slice A0_1 l0_1.length c0_1, .slice A0_2 l0_2.length c0_2, .slice A0_3 l0_3.length c0_3] 26 (0, 0)) (by (with_reducible repeat (first | refine blk_drewN ?_ _ | refine blk_drew ?_ | refine blk_alloc ?_ _)); exact BK114.out)) : gb114 ≠ gb123)); have n7_ := Aside0.mk ((by rw [hg]; exact Nat.ne_of_gt (blk_lt (g := gb114) (o := .cells #[.int .i64 a0_0, .slice A0_1 l0_1.length c0_1, .slice A0_2 l0_2.length c0_2, .slice A0_3 l0_3.length c0_3] 26 (0, 0)) (by (with_reducible repeat (first | refine blk_drewN ?_ _ | refine blk_drew ?_ | refine blk_alloc ?_ _)); exact BK114.out)) : gb123 ≠ gb114)); clear HO_3; clear BK114; clear HB; have HO_3 := n0_; have BK114 := n1_; have HB := n2_; have BK123 := n3_; have GW123 := n4_; have GE123 := n5_; have NB114_123 := n6_; have NB123_114 := n7_; clear n0_ n1_ n2_ n3_ n4_ n5_ n6_ n7_; clear hb hbox hg; have hnb39 := NB123_114.out; have hnc39 := NB114_123.out; have hcz40_0 : w38.cell? ⟨gb123, 0, none⟩ = some (.int .i64 0) := (blk_cell BK123.out 0).trans rfl; have hcz40_1 : w38.cell? ⟨gb123, 1, none⟩ = some (.int .i64 0) := (blk_cell BK123.out 1).trans rfl; have hcz40_2 : w38.cell? ⟨gb123, 2, none⟩ = some (.int .i64 0) := (blk_cell BK123.out 2).trans rfl; have hfz40_0 := blk_frozen BK123.out 0; have hfz40_1 := blk_frozen BK123.out 1; have hfz40_2 := blk_frozen BK123.out 2; have hcz41_0 : w38.cell? ⟨gb114, 0, none⟩ = some (.int .i64 a0_0) := (blk_cell BK114.out 0).trans rfl; have hcz41_1 : w38.cell? ⟨gb114, 1, none⟩ = some (.slice A0_1 l0_1.length c0_1) := (blk_cell BK114.out 1).trans rfl; have hcz41_2 : w38.cell? ⟨gb114, 2, none⟩ = some (.slice A0_2 l0_2.length c0_2) := (blk_cell BK114.out 2).trans rfl; have hcz41_3 : w38.cell? ⟨gb114, 3, none⟩ = some (.slice A0_3 l0_3.length c0_3) := (blk_cell BK114.out 3).trans rfl; have hfz41_0 := blk_frozen BK114.out 0; have hfz41_1 := blk_frozen BK114.out 1; have hfz41_2 := blk_frozen BK114.out 2; have hfz41_3 := blk_frozen BK114.out 3)); go_upto_if 92 with (first | ((with_reducible refine gate_dst (N := 6) rfl ?_); (try (refine gate_guard (by rfl) ?_; dsimp only)); refine box_event ?hg (N := 6) ?hd (cs := #[.int .i64 0, .int .i64 0, .int .i64 0]) (t := 49) ?hr ?_; (case hd => rfl); (case hg => rfl); (case hr => first | (go_simp; done) | (go_simp; rfl)); intro gb123 hg w38 hbox hb; have n0_ := Aside0.mk (Kd.R_below (by (with_reducible repeat (first | apply Kd.R_alloc | apply Kd.R_drewN | apply Kd.R_drew)); exact HO_3.out) hb); have n1_ := Aside0.mk (blk_below (g := gb114) (o := .cells #[.int .i64 a0_0, .slice A0_1 l0_1.length c0_1, .slice A0_2 l0_2.length c0_2, .slice A0_3 l0_3.length c0_3] 26 (0, 0)) (by (with_reducible repeat (first | refine blk_drewN ?_ _ | refine blk_drew ?_ | refine blk_alloc ?_ _)); exact BK114.out) hb); have n2_ := Aside0.mk (below_step (by repeat (first | (with_reducible first | exact HB.out | apply below_alloc | apply pw_below_drewN | apply below_drew1 | refine below_set ?_ GE114.out) | exact HB.out)) hb); have n3_ := Aside0.mk (hbox); have n4_ := Aside0.mk ((by rw [hg]; exact (below_size (by repeat (first | (with_reducible first | exact HB.out | apply below_alloc | apply pw_below_drewN | apply below_drew1 | refine below_set ?_ GE114.out) | exact HB.out))) : w.heap.size ≤ gb123)); have n5_ := Aside0.mk ((by rw [hg]; exact (below_size (by repeat (first | (with_reducible first | exact HB.out | apply below_alloc | apply pw_below_drewN | apply below_drew1 | refine below_set ?_ GE114.out) | exact HB.out))) : w.heap.size ≤ gb123)); have n6_ := Aside0.mk ((by rw [hg]; exact Nat.ne_of_lt (blk_lt (g := gb114) (o := .cells #[.int .i64 a0_0, .slice A0_1 l0_1.length c0_1, .slice A0_2 l0_2.length c0_2, .slice A0_3 l0_3.length c0_3] 26 (0, 0)) (by (with_reducible repeat (first | refine blk_drewN ?_ _ | refine blk_drew ?_ | refine blk_alloc ?_ _)); exact BK114.out)) : gb114 ≠ gb123)); have n7_ := Aside0.mk ((by rw [hg]; exact Nat.ne_of_gt (blk_lt (g := gb114) (o := .cells #[.int .i64 a0_0, .slice A0_1 l0_1.length c0_1, .slice A0_2 l0_2.length c0_2, .slice A0_3 l0_3.length c0_3] 26 (0, 0)) (by (with_reducible repeat (first | refine blk_drewN ?_ _ | refine blk_drew ?_ | refine blk_alloc ?_ _)); exact BK114.out)) : gb123 ≠ gb114)); clear HO_3; clear BK114; clear HB; have HO_3 := n0_; have BK114 := n1_; have HB := n2_; have BK123 := n3_; have GW123 := n4_; have GE123 := n5_; have NB114_123 := n6_; have NB123_114 := n7_; clear n0_ n1_ n2_ n3_ n4_ n5_ n6_ n7_; clear hb hbox hg; have hnb39 := NB123_114.out; have hnc39 := NB114_123.out; have hcz40_0 : w38.cell? ⟨gb123, 0, none⟩ = some (.int .i64 0) := (blk_cell BK123.out 0).trans rfl; have hcz40_1 : w38.cell? ⟨gb123, 1, none⟩ = some (.int .i64 0) := (blk_cell BK123.out 1).trans rfl; have hcz40_2 : w38.cell? ⟨gb123, 2, none⟩ = some (.int .i64 0) := (blk_cell BK123.out 2).trans rfl; have hfz40_0 := blk_frozen BK123.out 0; have hfz40_1 := blk_frozen BK123.out 1; have hfz40_2 := blk_frozen BK123.out 2; have hcz41_0 : w38.cell? ⟨gb114, 0, none⟩ = some (.int .i64 a0_0) := (blk_cell BK114.out 0).trans rfl; have hcz41_1 : w38.cell? ⟨gb114, 1, none⟩ = some (.slice A0_1 l0_1.length c0_1) := (blk_cell BK114.out 1).trans rfl; have hcz41_2 : w38.cell? ⟨gb114, 2, none⟩ = some (.slice A0_2 l0_2.length c0_2) := (blk_cell BK114.out 2).trans rfl; have hcz41_3 : w38.cell? ⟨gb114, 3, none⟩ = some (.slice A0_3 l0_3.length c0_3) := (blk_cell BK114.out 3).trans rfl; have hfz41_0 := blk_frozen BK114.out 0; have hfz41_1 := blk_frozen BK114.out 1; have hfz41_2 := blk_frozen BK114.out 2; have hfz41_3 := blk_frozen BK114.out 3)))
                                (try simp only [Act.put, List.setIfInBounds_toArray, List.set_cons_zero, List.set_cons_succ])
                                go_cut [7] (fun v7 wc => ∃ (kq : Nat) (x7_36 : Int), v7 = .int .i64 x7_36 ∧ Aside0 (spec_LineOk.j4 kq t115 x4_2 x7_36 a0_0 l0_1 l0_2 l0_3 ((rd_T109 t115 x4_2).f1.f0) ((rd_T109 t115 x4_2).f1.f1) ((rd_T109 t115 x4_2).f1.f2) = some r) ∧ Aside0 (kq ≤ k4) ∧ Aside0 (Kd.R k109 109 wc w.heap.size (fun _ => True) (.slice (some ad122) t115.length co22) t115) ∧ Aside0 (wc.heap[gb114]? = some (.cells #[.int .i64 a0_0, (.slice A0_1 l0_1.length c0_1), (.slice A0_2 l0_2.length c0_2), (.slice A0_3 l0_3.length c0_3)] 26 (0, 0))) ∧ Aside0 (wc.heap[gb123]? = some (.cells #[.int .i64 ((rd_T109 t115 x4_2).f1.f0), .int .i64 ((rd_T109 t115 x4_2).f1.f1), .int .i64 ((rd_T109 t115 x4_2).f1.f2)] 49 (0, 0))) ∧ Aside0 (Below w.heap.size w wc))
                                case first =>
                                  have H := HC37.out
                                  clear HC37
                                  by_cases c42 : x4_2 < (l0_3.length : Int)
                                  · rw [if_pos c42] at H
                                    have c42b0 : decide (x4_2 < (l0_3.length : Int)) = true := decide_eq_true c42
                                    clear c42
                                    (first | rw [c42b0] | (simp only [i64_w, i32_w]; rw [c42b0]) | skip)
                                    have H' := Aside0.mk H
                                    clear H
                                    go_wp2
                                    repeat (go_quiet (fail); try go_wp2)
                                    go_meet
                                    case rel => exact ⟨_, (2), (by first | rfl | (simp; done) | (simp [*]; done)), H', ⟨by have := HJ1.out; have := HK2.out; have := HJ24.out; have := HK4.out; first | omega | exact Nat.le_refl _⟩, ⟨by (with_reducible repeat (first | apply Kd.R_alloc | apply Kd.R_drewN | apply Kd.R_drew)); exact Kd.R_mono (Kd.R_far (p := ⟨gb123, 2, none⟩) (Kd.R_far (p := ⟨gb123, 1, none⟩) (Kd.R_far (p := ⟨gb123, 0, none⟩) (Kd.R_types HO_3.out BK123.out (by decide)) (fun _ hk => hk.2) (.int .i64 ((rd_T109 t115 x4_2).f1.f0))) (fun _ hk => hk.2) (.int .i64 ((rd_T109 t115 x4_2).f1.f1))) (fun _ hk => hk.2) (.int .i64 ((rd_T109 t115 x4_2).f1.f2))) (fun _ hk => trivial)⟩, ⟨by (with_reducible repeat (first | refine blk_drewN ?_ _ | refine blk_drew ?_ | refine blk_alloc ?_ _)); refine blk_far ?_ NB114_123.out _; (with_reducible repeat (first | refine blk_drewN ?_ _ | refine blk_drew ?_ | refine blk_alloc ?_ _)); refine blk_far ?_ NB114_123.out _; (with_reducible repeat (first | refine blk_drewN ?_ _ | refine blk_drew ?_ | refine blk_alloc ?_ _)); refine blk_far ?_ NB114_123.out _; (with_reducible repeat (first | refine blk_drewN ?_ _ | refine blk_drew ?_ | refine blk_alloc ?_ _)); exact BK114.out⟩, ⟨by (with_reducible repeat (first | refine blk_drewN ?_ _ | refine blk_drew ?_ | refine blk_alloc ?_ _)); refine blk_put (cs := #[.int .i64 ((rd_T109 t115 x4_2).f1.f0), .int .i64 ((rd_T109 t115 x4_2).f1.f1), .int .i64 0]) ?_ 2 _ rfl; (with_reducible repeat (first | refine blk_drewN ?_ _ | refine blk_drew ?_ | refine blk_alloc ?_ _)); refine blk_put (cs := #[.int .i64 ((rd_T109 t115 x4_2).f1.f0), .int .i64 0, .int .i64 0]) ?_ 1 _ rfl; (with_reducible repeat (first | refine blk_drewN ?_ _ | refine blk_drew ?_ | refine blk_alloc ?_ _)); refine blk_put (cs := #[.int .i64 0, .int .i64 0, .int .i64 0]) ?_ 0 _ rfl; (with_reducible repeat (first | refine blk_drewN ?_ _ | refine blk_drew ?_ | refine blk_alloc ?_ _)); exact BK123.out⟩, ⟨by repeat (first | (with_reducible first | exact HB.out | apply below_alloc | apply pw_below_drewN | apply below_drew1 | refine below_set ?_ GE114.out | refine below_set ?_ GE123.out) | exact HB.out)⟩⟩
                                  · rw [if_neg c42] at H
                                    have c42b0 : decide (x4_2 < (l0_3.length : Int)) = false := decide_eq_false c42
                                    clear c42
                                    (first | rw [c42b0] | (simp only [i64_w, i32_w]; rw [c42b0]) | skip)
                                    by_cases c43 : x4_2 < (wrap64 ((l0_3.length : Int) + (l0_2.length : Int)))
                                    · rw [if_pos c43] at H
                                      have c43b0 : decide (x4_2 < (wrap64 ((l0_3.length : Int) + (l0_2.length : Int)))) = true := decide_eq_true c43
                                      clear c43
                                      have H' := Aside0.mk H
                                      clear H
                                      have hnb44 := NB114_123.out
                                      have hnc44 := NB123_114.out
                                      have hcz45_0 : w38.cell? ⟨gb114, 0, none⟩ = some (.int .i64 a0_0) := (blk_cell BK114.out 0).trans rfl
                                      have hcz45_1 : w38.cell? ⟨gb114, 1, none⟩ = some (.slice A0_1 l0_1.length c0_1) := (blk_cell BK114.out 1).trans rfl
                                      have hcz45_2 : w38.cell? ⟨gb114, 2, none⟩ = some (.slice A0_2 l0_2.length c0_2) := (blk_cell BK114.out 2).trans rfl
                                      have hcz45_3 : w38.cell? ⟨gb114, 3, none⟩ = some (.slice A0_3 l0_3.length c0_3) := (blk_cell BK114.out 3).trans rfl
                                      have hfz45_0 := blk_frozen BK114.out 0
                                      have hfz45_1 := blk_frozen BK114.out 1
                                      have hfz45_2 := blk_frozen BK114.out 2
                                      have hfz45_3 := blk_frozen BK114.out 3
                                      go_wp2
                                      repeat (go_quiet (fail); try go_wp2)
                                      go_meet
                                      case rel => exact ⟨_, (1), (by first | rfl | (simp; done) | (simp [*]; done)), H', ⟨by have := HJ1.out; have := HK2.out; have := HJ24.out; have := HK4.out; first | omega | exact Nat.le_refl _⟩, ⟨by (with_reducible repeat (first | apply Kd.R_alloc | apply Kd.R_drewN | apply Kd.R_drew)); exact Kd.R_mono (Kd.R_far (p := ⟨gb123, 2, none⟩) (Kd.R_far (p := ⟨gb123, 1, none⟩) (Kd.R_far (p := ⟨gb123, 0, none⟩) (Kd.R_types HO_3.out BK123.out (by decide)) (fun _ hk => hk.2) (.int .i64 ((rd_T109 t115 x4_2).f1.f0))) (fun _ hk => hk.2) (.int .i64 ((rd_T109 t115 x4_2).f1.f1))) (fun _ hk => hk.2) (.int .i64 ((rd_T109 t115 x4_2).f1.f2))) (fun _ hk => trivial)⟩, ⟨by (with_reducible repeat (first | refine blk_drewN ?_ _ | refine blk_drew ?_ | refine blk_alloc ?_ _)); refine blk_far ?_ NB114_123.out _; (with_reducible repeat (first | refine blk_drewN ?_ _ | refine blk_drew ?_ | refine blk_alloc ?_ _)); refine blk_far ?_ NB114_123.out _; (with_reducible repeat (first | refine blk_drewN ?_ _ | refine blk_drew ?_ | refine blk_alloc ?_ _)); refine blk_far ?_ NB114_123.out _; (with_reducible repeat (first | refine blk_drewN ?_ _ | refine blk_drew ?_ | refine blk_alloc ?_ _)); exact BK114.out⟩, ⟨by (with_reducible repeat (first | refine blk_drewN ?_ _ | refine blk_drew ?_ | refine blk_alloc ?_ _)); refine blk_put (cs := #[.int .i64 ((rd_T109 t115 x4_2).f1.f0), .int .i64 ((rd_T109 t115 x4_2).f1.f1), .int .i64 0]) ?_ 2 _ rfl; (with_reducible repeat (first | refine blk_drewN ?_ _ | refine blk_drew ?_ | refine blk_alloc ?_ _)); refine blk_put (cs := #[.int .i64 ((rd_T109 t115 x4_2).f1.f0), .int .i64 0, .int .i64 0]) ?_ 1 _ rfl; (with_reducible repeat (first | refine blk_drewN ?_ _ | refine blk_drew ?_ | refine blk_alloc ?_ _)); refine blk_put (cs := #[.int .i64 0, .int .i64 0, .int .i64 0]) ?_ 0 _ rfl; (with_reducible repeat (first | refine blk_drewN ?_ _ | refine blk_drew ?_ | refine blk_alloc ?_ _)); exact BK123.out⟩, ⟨by repeat (first | (with_reducible first | exact HB.out | apply below_alloc | apply pw_below_drewN | apply below_drew1 | refine below_set ?_ GE114.out | refine below_set ?_ GE123.out) | exact HB.out)⟩⟩
                                    · rw [if_neg c43] at H
                                      have c43b0 : decide (x4_2 < (wrap64 ((l0_3.length : Int) + (l0_2.length : Int)))) = false := decide_eq_false c43
                                      clear c43
                                      have H' := Aside0.mk H
                                      clear H
                                      have hnb46 := NB114_123.out
                                      have hnc46 := NB123_114.out
                                      have hcz47_0 : w38.cell? ⟨gb114, 0, none⟩ = some (.int .i64 a0_0) := (blk_cell BK114.out 0).trans rfl
                                      have hcz47_1 : w38.cell? ⟨gb114, 1, none⟩ = some (.slice A0_1 l0_1.length c0_1) := (blk_cell BK114.out 1).trans rfl
                                      have hcz47_2 : w38.cell? ⟨gb114, 2, none⟩ = some (.slice A0_2 l0_2.length c0_2) := (blk_cell BK114.out 2).trans rfl
                                      have hcz47_3 : w38.cell? ⟨gb114, 3, none⟩ = some (.slice A0_3 l0_3.length c0_3) := (blk_cell BK114.out 3).trans rfl
                                      have hfz47_0 := blk_frozen BK114.out 0
                                      have hfz47_1 := blk_frozen BK114.out 1
                                      have hfz47_2 := blk_frozen BK114.out 2
                                      have hfz47_3 := blk_frozen BK114.out 3
                                      go_wp2
                                      repeat (go_quiet (fail); try go_wp2)
                                      go_meet
                                      case rel => exact ⟨_, (0), (by first | rfl | (simp; done) | (simp [*]; done)), H', ⟨by have := HJ1.out; have := HK2.out; have := HJ24.out; have := HK4.out; first | omega | exact Nat.le_refl _⟩, ⟨by (with_reducible repeat (first | apply Kd.R_alloc | apply Kd.R_drewN | apply Kd.R_drew)); exact Kd.R_mono (Kd.R_far (p := ⟨gb123, 2, none⟩) (Kd.R_far (p := ⟨gb123, 1, none⟩) (Kd.R_far (p := ⟨gb123, 0, none⟩) (Kd.R_types HO_3.out BK123.out (by decide)) (fun _ hk => hk.2) (.int .i64 ((rd_T109 t115 x4_2).f1.f0))) (fun _ hk => hk.2) (.int .i64 ((rd_T109 t115 x4_2).f1.f1))) (fun _ hk => hk.2) (.int .i64 ((rd_T109 t115 x4_2).f1.f2))) (fun _ hk => trivial)⟩, ⟨by (with_reducible repeat (first | refine blk_drewN ?_ _ | refine blk_drew ?_ | refine blk_alloc ?_ _)); refine blk_far ?_ NB114_123.out _; (with_reducible repeat (first | refine blk_drewN ?_ _ | refine blk_drew ?_ | refine blk_alloc ?_ _)); refine blk_far ?_ NB114_123.out _; (with_reducible repeat (first | refine blk_drewN ?_ _ | refine blk_drew ?_ | refine blk_alloc ?_ _)); refine blk_far ?_ NB114_123.out _; (with_reducible repeat (first | refine blk_drewN ?_ _ | refine blk_drew ?_ | refine blk_alloc ?_ _)); exact BK114.out⟩, ⟨by (with_reducible repeat (first | refine blk_drewN ?_ _ | refine blk_drew ?_ | refine blk_alloc ?_ _)); refine blk_put (cs := #[.int .i64 ((rd_T109 t115 x4_2).f1.f0), .int .i64 ((rd_T109 t115 x4_2).f1.f1), .int .i64 0]) ?_ 2 _ rfl; (with_reducible repeat (first | refine blk_drewN ?_ _ | refine blk_drew ?_ | refine blk_alloc ?_ _)); refine blk_put (cs := #[.int .i64 ((rd_T109 t115 x4_2).f1.f0), .int .i64 0, .int .i64 0]) ?_ 1 _ rfl; (with_reducible repeat (first | refine blk_drewN ?_ _ | refine blk_drew ?_ | refine blk_alloc ?_ _)); refine blk_put (cs := #[.int .i64 0, .int .i64 0, .int .i64 0]) ?_ 0 _ rfl; (with_reducible repeat (first | refine blk_drewN ?_ _ | refine blk_drew ?_ | refine blk_alloc ?_ _)); exact BK123.out⟩, ⟨by repeat (first | (with_reducible first | exact HB.out | apply below_alloc | apply pw_below_drewN | apply below_drew1 | refine below_set ?_ GE114.out | refine below_set ?_ GE123.out) | exact HB.out)⟩⟩
                                case rest =>
                                  clear HC37
                                  try clear c1
                                  try clear p1
                                  try clear q1
                                  try clear hx1
                                  try clear c2
                                  try clear p2
                                  try clear c3
                                  try clear c4
                                  try clear c4b0
                                  try clear c6
                                  try clear c6b0
                                  try clear p6
                                  try clear c8
                                  try clear c8b0
                                  try clear c10
                                  try clear c10b0
                                  try clear p11
                                  try clear q11
                                  try clear hx11
                                  try clear p12
                                  try clear q12
                                  try clear hx12
                                  try clear c13
                                  try clear c15
                                  try clear c15b0
                                  try clear c24
                                  try clear c24b0
                                  try clear c26
                                  try clear c26b0
                                  try clear c27
                                  try clear c27b0
                                  try clear c28
                                  try clear c29
                                  try clear c29b0
                                  try clear c30
                                  try clear c30b0
                                  try clear c31
                                  try clear c31b0
                                  try clear c32
                                  try clear c32b0
                                  try clear c33
                                  try clear c33b0
                                  try clear c34
                                  try clear c34b0
                                  try clear c34b1
                                  try clear c35
                                  try clear c35b0
                                  try clear c36
                                  try clear c36b0
                                  try clear c39
                                  try clear c42
                                  try clear c42b0
                                  try clear c43
                                  try clear c43b0
                                  try clear c44
                                  try clear c46
                                  try clear hcz11_0
                                  try clear hcz11_1
                                  try clear hcz11_2
                                  try clear hcz11_3
                                  try clear hcz12_0
                                  try clear hcz12_1
                                  try clear hcz12_2
                                  try clear hcz12_3
                                  try clear hcz16_0
                                  try clear hcz16_1
                                  try clear hcz16_2
                                  try clear hcz16_3
                                  try clear hcz19_0
                                  try clear hcz19_1
                                  try clear hcz19_2
                                  try clear hcz19_3
                                  try clear hcz20_0
                                  try clear hcz20_1
                                  try clear hcz20_2
                                  try clear hcz20_3
                                  try clear hcz23_0
                                  try clear hcz23_1
                                  try clear hcz23_2
                                  try clear hcz23_3
                                  try clear hcz40_0
                                  try clear hcz40_1
                                  try clear hcz40_2
                                  try clear hcz41_0
                                  try clear hcz41_1
                                  try clear hcz41_2
                                  try clear hcz41_3
                                  try clear hcz45_0
                                  try clear hcz45_1
                                  try clear hcz45_2
                                  try clear hcz45_3
                                  try clear hcz47_0
                                  try clear hcz47_1
                                  try clear hcz47_2
                                  try clear hcz47_3
                                  try clear hcz5_0
                                  try clear hcz5_1
                                  try clear hcz5_2
                                  try clear hcz5_3
                                  try clear hcz7_0
                                  try clear hcz7_1
                                  try clear hcz7_2
                                  try clear hcz7_3
                                  try clear hcz9_0
                                  try clear hcz9_1
                                  try clear hcz9_2
                                  try clear hcz9_3
                                  try clear hfz11_0
                                  try clear hfz11_1
                                  try clear hfz11_2
                                  try clear hfz11_3
                                  try clear hfz12_0
                                  try clear hfz12_1
                                  try clear hfz12_2
                                  try clear hfz12_3
                                  try clear hfz16_0
                                  try clear hfz16_1
                                  try clear hfz16_2
                                  try clear hfz16_3
                                  try clear hfz19_0
                                  try clear hfz19_1
                                  try clear hfz19_2
                                  try clear hfz19_3
                                  try clear hfz20_0
                                  try clear hfz20_1
                                  try clear hfz20_2
                                  try clear hfz20_3
                                  try clear hfz23_0
                                  try clear hfz23_1
                                  try clear hfz23_2
                                  try clear hfz23_3
                                  try clear hfz40_0
                                  try clear hfz40_1
                                  try clear hfz40_2
                                  try clear hfz41_0
                                  try clear hfz41_1
                                  try clear hfz41_2
                                  try clear hfz41_3
                                  try clear hfz45_0
                                  try clear hfz45_1
                                  try clear hfz45_2
                                  try clear hfz45_3
                                  try clear hfz47_0
                                  try clear hfz47_1
                                  try clear hfz47_2
                                  try clear hfz47_3
                                  try clear hfz5_0
                                  try clear hfz5_1
                                  try clear hfz5_2
                                  try clear hfz5_3
                                  try clear hfz7_0
                                  try clear hfz7_1
                                  try clear hfz7_2
                                  try clear hfz7_3
                                  try clear hfz9_0
                                  try clear hfz9_1
                                  try clear hfz9_2
                                  try clear hfz9_3
                                  try clear hx118_0
                                  try clear hx118_1
                                  try clear hx118_2
                                  try clear hx118_3
                                  try clear hx119_0
                                  try clear hx119_1
                                  try clear hx119_2
                                  try clear hx119_3
                                  try clear hx120_0
                                  try clear hx120_1
                                  try clear hx120_2
                                  try clear hx120_3
                                  try clear hx121_0
                                  try clear hx121_1
                                  try clear hx121_2
                                  try clear hx121_3
                                  try clear hx122_0
                                  try clear hx122_1
                                  try clear hx122_2
                                  try clear hx122_3
                                  try clear p1
                                  try clear p11
                                  try clear p118
                                  try clear p119
                                  try clear p120
                                  try clear p121
                                  try clear p122
                                  try clear p2
                                  try clear q1
                                  try clear q11
                                  try clear q118
                                  try clear q119
                                  try clear q120
                                  try clear q121
                                  try clear q122
                                  obtain ⟨kq, x7_36, rfl, HA, HJ36, HO_3, BK114, BK123, HB⟩ := hcut
                                  cases kq with
                                  | zero => exact absurd HA.out (by simp [spec_LineOk.j4])
                                  | succ kj36 =>
                                    have H := HA.out
                                    clear HA
                                    simp only [spec_LineOk.j4] at H
                                    have HC48 := Aside0.mk H
                                    clear H
                                    go_upto_region 22 with (fail)
                                    repeat (go_quiet (fail); go_upto_region 22 with (fail))
                                    go_cut [122] (fun v122 wc => ∃ (kq : Nat) (x122_47 : Bool), v122 = .bool x122_47 ∧ Aside0 (spec_LineOk.j5 kq t115 x4_2 x7_36 x122_47 a0_0 l0_1 l0_2 l0_3 ((rd_T109 t115 x4_2).f1.f0) ((rd_T109 t115 x4_2).f1.f1) ((rd_T109 t115 x4_2).f1.f2) = some r) ∧ Aside0 (kq ≤ kj36) ∧ Aside0 (Kd.R k109 109 wc w.heap.size (fun _ => True) (.slice (some ad122) t115.length co22) t115) ∧ Aside0 (wc.heap[gb114]? = some (.cells #[.int .i64 a0_0, (.slice A0_1 l0_1.length c0_1), (.slice A0_2 l0_2.length c0_2), (.slice A0_3 l0_3.length c0_3)] 26 (0, 0))) ∧ Aside0 (wc.heap[gb123]? = some (.cells #[.int .i64 ((rd_T109 t115 x4_2).f1.f0), .int .i64 ((rd_T109 t115 x4_2).f1.f1), .int .i64 ((rd_T109 t115 x4_2).f1.f2)] 49 (0, 0))) ∧ Aside0 (Below w.heap.size w wc))
                                    case first =>
                                      have H := HC48.out
                                      clear HC48
                                      by_cases c49 : x7_36 > 0
                                      · rw [if_pos c49] at H
                                        have c49b0 : decide (0 < x7_36) = true := decide_eq_true c49
                                        clear c49
                                        (first | rw [c49b0] | (simp only [i64_w, i32_w]; rw [c49b0]) | skip)
                                        by_cases c50 : ((rd_T109 t115 x4_2).f1.f0) = 0
                                        · rw [if_pos c50] at H
                                          have c50b0 : (((rd_T109 t115 x4_2).f1.f0) == 0) = true := beq_iff_eq.mpr c50
                                          have c50b1 : (((rd_T109 t115 x4_2).f1.f0) != 0) = false := bne_eq_false_iff_eq.mpr c50
                                          clear c50
                                          by_cases c51 : x7_36 = 0
                                          · rw [if_pos c51] at H
                                            have c51b0 : (x7_36 == 0) = true := beq_iff_eq.mpr c51
                                            have c51b1 : (x7_36 != 0) = false := bne_eq_false_iff_eq.mpr c51
                                            clear c51
                                            by_cases c52 : ((rd_T109 t115 x4_2).f1.f0) < 1
                                            · rw [if_pos c52] at H
                                              have c52b0 : decide (((rd_T109 t115 x4_2).f1.f0) < 1) = true := decide_eq_true c52
                                              clear c52
                                              have H' := Aside0.mk H
                                              clear H
                                              have hnb53 := NB123_114.out
                                              have hnc53 := NB114_123.out
                                              have hcz54_0 : wc.cell? ⟨gb123, 0, none⟩ = some (.int .i64 ((rd_T109 t115 x4_2).f1.f0)) := (blk_cell BK123.out 0).trans rfl
                                              have hcz54_1 : wc.cell? ⟨gb123, 1, none⟩ = some (.int .i64 ((rd_T109 t115 x4_2).f1.f1)) := (blk_cell BK123.out 1).trans rfl
                                              have hcz54_2 : wc.cell? ⟨gb123, 2, none⟩ = some (.int .i64 ((rd_T109 t115 x4_2).f1.f2)) := (blk_cell BK123.out 2).trans rfl
                                              have hfz54_0 := blk_frozen BK123.out 0
                                              have hfz54_1 := blk_frozen BK123.out 1
                                              have hfz54_2 := blk_frozen BK123.out 2
                                              go_wp2
                                              repeat (go_quiet (fail); try go_wp2)
                                              go_meet
                                              case rel => exact ⟨_, (true), (by first | rfl | (simp; done) | (simp [*]; done)), H', ⟨by have := HJ1.out; have := HK2.out; have := HJ24.out; have := HK4.out; have := HJ36.out; first | omega | exact Nat.le_refl _⟩, ⟨by (with_reducible repeat (first | apply Kd.R_alloc | apply Kd.R_drewN | apply Kd.R_drew)); exact HO_3.out⟩, ⟨by (with_reducible repeat (first | refine blk_drewN ?_ _ | refine blk_drew ?_ | refine blk_alloc ?_ _)); exact BK114.out⟩, ⟨by (with_reducible repeat (first | refine blk_drewN ?_ _ | refine blk_drew ?_ | refine blk_alloc ?_ _)); exact BK123.out⟩, ⟨by repeat (first | (with_reducible first | exact HB.out | apply below_alloc | apply pw_below_drewN | apply below_drew1 | refine below_set ?_ GE114.out | refine below_set ?_ GE123.out) | exact HB.out)⟩⟩
                                            · rw [if_neg c52] at H
                                              have c52b0 : decide (((rd_T109 t115 x4_2).f1.f0) < 1) = false := decide_eq_false c52
                                              clear c52
                                              have H' := Aside0.mk H
                                              clear H
                                              have hnb55 := NB123_114.out
                                              have hnc55 := NB114_123.out
                                              have hcz56_0 : wc.cell? ⟨gb123, 0, none⟩ = some (.int .i64 ((rd_T109 t115 x4_2).f1.f0)) := (blk_cell BK123.out 0).trans rfl
                                              have hcz56_1 : wc.cell? ⟨gb123, 1, none⟩ = some (.int .i64 ((rd_T109 t115 x4_2).f1.f1)) := (blk_cell BK123.out 1).trans rfl
                                              have hcz56_2 : wc.cell? ⟨gb123, 2, none⟩ = some (.int .i64 ((rd_T109 t115 x4_2).f1.f2)) := (blk_cell BK123.out 2).trans rfl
                                              have hfz56_0 := blk_frozen BK123.out 0
                                              have hfz56_1 := blk_frozen BK123.out 1
                                              have hfz56_2 := blk_frozen BK123.out 2
                                              go_wp2
                                              repeat (go_quiet (fail); try go_wp2)
                                              go_meet
                                              case rel => exact ⟨_, (decide (((rd_T109 t115 x4_2).f1.f0) > 1000)), (by first | rfl | (simp; done) | (simp [*]; done)), H', ⟨by have := HJ1.out; have := HK2.out; have := HJ24.out; have := HK4.out; have := HJ36.out; first | omega | exact Nat.le_refl _⟩, ⟨by (with_reducible repeat (first | apply Kd.R_alloc | apply Kd.R_drewN | apply Kd.R_drew)); exact HO_3.out⟩, ⟨by (with_reducible repeat (first | refine blk_drewN ?_ _ | refine blk_drew ?_ | refine blk_alloc ?_ _)); exact BK114.out⟩, ⟨by (with_reducible repeat (first | refine blk_drewN ?_ _ | refine blk_drew ?_ | refine blk_alloc ?_ _)); exact BK123.out⟩, ⟨by repeat (first | (with_reducible first | exact HB.out | apply below_alloc | apply pw_below_drewN | apply below_drew1 | refine below_set ?_ GE114.out | refine below_set ?_ GE123.out) | exact HB.out)⟩⟩
                                          · rw [if_neg c51] at H
                                            have c51b0 : (x7_36 == 0) = false := beq_eq_false_iff_ne.mpr c51
                                            have c51b1 : (x7_36 != 0) = true := bne_iff_ne.mpr c51
                                            have H' := Aside0.mk H
                                            clear H
                                            have hnb57 := NB123_114.out
                                            have hnc57 := NB114_123.out
                                            have hcz58_0 : wc.cell? ⟨gb123, 0, none⟩ = some (.int .i64 ((rd_T109 t115 x4_2).f1.f0)) := (blk_cell BK123.out 0).trans rfl
                                            have hcz58_1 : wc.cell? ⟨gb123, 1, none⟩ = some (.int .i64 ((rd_T109 t115 x4_2).f1.f1)) := (blk_cell BK123.out 1).trans rfl
                                            have hcz58_2 : wc.cell? ⟨gb123, 2, none⟩ = some (.int .i64 ((rd_T109 t115 x4_2).f1.f2)) := (blk_cell BK123.out 2).trans rfl
                                            have hfz58_0 := blk_frozen BK123.out 0
                                            have hfz58_1 := blk_frozen BK123.out 1
                                            have hfz58_2 := blk_frozen BK123.out 2
                                            go_wp2
                                            repeat (go_quiet (fail); try go_wp2)
                                            go_meet
                                            case rel => exact ⟨_, (false), (by first | rfl | (simp; done) | (simp [*]; done)), H', ⟨by have := HJ1.out; have := HK2.out; have := HJ24.out; have := HK4.out; have := HJ36.out; first | omega | exact Nat.le_refl _⟩, ⟨by (with_reducible repeat (first | apply Kd.R_alloc | apply Kd.R_drewN | apply Kd.R_drew)); exact HO_3.out⟩, ⟨by (with_reducible repeat (first | refine blk_drewN ?_ _ | refine blk_drew ?_ | refine blk_alloc ?_ _)); exact BK114.out⟩, ⟨by (with_reducible repeat (first | refine blk_drewN ?_ _ | refine blk_drew ?_ | refine blk_alloc ?_ _)); exact BK123.out⟩, ⟨by repeat (first | (with_reducible first | exact HB.out | apply below_alloc | apply pw_below_drewN | apply below_drew1 | refine below_set ?_ GE114.out | refine below_set ?_ GE123.out) | exact HB.out)⟩⟩
                                        · rw [if_neg c50] at H
                                          have c50b0 : (((rd_T109 t115 x4_2).f1.f0) == 0) = false := beq_eq_false_iff_ne.mpr c50
                                          have c50b1 : (((rd_T109 t115 x4_2).f1.f0) != 0) = true := bne_iff_ne.mpr c50
                                          have H' := Aside0.mk H
                                          clear H
                                          have hnb59 := NB123_114.out
                                          have hnc59 := NB114_123.out
                                          have hcz60_0 : wc.cell? ⟨gb123, 0, none⟩ = some (.int .i64 ((rd_T109 t115 x4_2).f1.f0)) := (blk_cell BK123.out 0).trans rfl
                                          have hcz60_1 : wc.cell? ⟨gb123, 1, none⟩ = some (.int .i64 ((rd_T109 t115 x4_2).f1.f1)) := (blk_cell BK123.out 1).trans rfl
                                          have hcz60_2 : wc.cell? ⟨gb123, 2, none⟩ = some (.int .i64 ((rd_T109 t115 x4_2).f1.f2)) := (blk_cell BK123.out 2).trans rfl
                                          have hfz60_0 := blk_frozen BK123.out 0
                                          have hfz60_1 := blk_frozen BK123.out 1
                                          have hfz60_2 := blk_frozen BK123.out 2
                                          go_wp2
                                          repeat (go_quiet (fail); try go_wp2)
                                          go_meet
                                          case rel => exact ⟨_, (true), (by first | rfl | (simp; done) | (simp [*]; done)), H', ⟨by have := HJ1.out; have := HK2.out; have := HJ24.out; have := HK4.out; have := HJ36.out; first | omega | exact Nat.le_refl _⟩, ⟨by (with_reducible repeat (first | apply Kd.R_alloc | apply Kd.R_drewN | apply Kd.R_drew)); exact HO_3.out⟩, ⟨by (with_reducible repeat (first | refine blk_drewN ?_ _ | refine blk_drew ?_ | refine blk_alloc ?_ _)); exact BK114.out⟩, ⟨by (with_reducible repeat (first | refine blk_drewN ?_ _ | refine blk_drew ?_ | refine blk_alloc ?_ _)); exact BK123.out⟩, ⟨by repeat (first | (with_reducible first | exact HB.out | apply below_alloc | apply pw_below_drewN | apply below_drew1 | refine below_set ?_ GE114.out | refine below_set ?_ GE123.out) | exact HB.out)⟩⟩
                                      · rw [if_neg c49] at H
                                        have c49b0 : decide (0 < x7_36) = false := decide_eq_false c49
                                        clear c49
                                        (first | rw [c49b0] | (simp only [i64_w, i32_w]; rw [c49b0]) | skip)
                                        by_cases c61 : x7_36 = 0
                                        · rw [if_pos c61] at H
                                          have c61b0 : (x7_36 == 0) = true := beq_iff_eq.mpr c61
                                          have c61b1 : (x7_36 != 0) = false := bne_eq_false_iff_eq.mpr c61
                                          clear c61
                                          by_cases c62 : ((rd_T109 t115 x4_2).f1.f0) < 1
                                          · rw [if_pos c62] at H
                                            have c62b0 : decide (((rd_T109 t115 x4_2).f1.f0) < 1) = true := decide_eq_true c62
                                            clear c62
                                            have H' := Aside0.mk H
                                            clear H
                                            have hnb63 := NB123_114.out
                                            have hnc63 := NB114_123.out
                                            have hcz64_0 : wc.cell? ⟨gb123, 0, none⟩ = some (.int .i64 ((rd_T109 t115 x4_2).f1.f0)) := (blk_cell BK123.out 0).trans rfl
                                            have hcz64_1 : wc.cell? ⟨gb123, 1, none⟩ = some (.int .i64 ((rd_T109 t115 x4_2).f1.f1)) := (blk_cell BK123.out 1).trans rfl
                                            have hcz64_2 : wc.cell? ⟨gb123, 2, none⟩ = some (.int .i64 ((rd_T109 t115 x4_2).f1.f2)) := (blk_cell BK123.out 2).trans rfl
                                            have hfz64_0 := blk_frozen BK123.out 0
                                            have hfz64_1 := blk_frozen BK123.out 1
                                            have hfz64_2 := blk_frozen BK123.out 2
                                            go_wp2
                                            repeat (go_quiet (fail); try go_wp2)
                                            go_meet
                                            case rel => exact ⟨_, (true), (by first | rfl | (simp; done) | (simp [*]; done)), H', ⟨by have := HJ1.out; have := HK2.out; have := HJ24.out; have := HK4.out; have := HJ36.out; first | omega | exact Nat.le_refl _⟩, ⟨by (with_reducible repeat (first | apply Kd.R_alloc | apply Kd.R_drewN | apply Kd.R_drew)); exact HO_3.out⟩, ⟨by (with_reducible repeat (first | refine blk_drewN ?_ _ | refine blk_drew ?_ | refine blk_alloc ?_ _)); exact BK114.out⟩, ⟨by (with_reducible repeat (first | refine blk_drewN ?_ _ | refine blk_drew ?_ | refine blk_alloc ?_ _)); exact BK123.out⟩, ⟨by repeat (first | (with_reducible first | exact HB.out | apply below_alloc | apply pw_below_drewN | apply below_drew1 | refine below_set ?_ GE114.out | refine below_set ?_ GE123.out) | exact HB.out)⟩⟩
                                          · rw [if_neg c62] at H
                                            have c62b0 : decide (((rd_T109 t115 x4_2).f1.f0) < 1) = false := decide_eq_false c62
                                            clear c62
                                            have H' := Aside0.mk H
                                            clear H
                                            have hnb65 := NB123_114.out
                                            have hnc65 := NB114_123.out
                                            have hcz66_0 : wc.cell? ⟨gb123, 0, none⟩ = some (.int .i64 ((rd_T109 t115 x4_2).f1.f0)) := (blk_cell BK123.out 0).trans rfl
                                            have hcz66_1 : wc.cell? ⟨gb123, 1, none⟩ = some (.int .i64 ((rd_T109 t115 x4_2).f1.f1)) := (blk_cell BK123.out 1).trans rfl
                                            have hcz66_2 : wc.cell? ⟨gb123, 2, none⟩ = some (.int .i64 ((rd_T109 t115 x4_2).f1.f2)) := (blk_cell BK123.out 2).trans rfl
                                            have hfz66_0 := blk_frozen BK123.out 0
                                            have hfz66_1 := blk_frozen BK123.out 1
                                            have hfz66_2 := blk_frozen BK123.out 2
                                            go_wp2
                                            repeat (go_quiet (fail); try go_wp2)
                                            go_meet
                                            case rel => exact ⟨_, (decide (((rd_T109 t115 x4_2).f1.f0) > 1000)), (by first | rfl | (simp; done) | (simp [*]; done)), H', ⟨by have := HJ1.out; have := HK2.out; have := HJ24.out; have := HK4.out; have := HJ36.out; first | omega | exact Nat.le_refl _⟩, ⟨by (with_reducible repeat (first | apply Kd.R_alloc | apply Kd.R_drewN | apply Kd.R_drew)); exact HO_3.out⟩, ⟨by (with_reducible repeat (first | refine blk_drewN ?_ _ | refine blk_drew ?_ | refine blk_alloc ?_ _)); exact BK114.out⟩, ⟨by (with_reducible repeat (first | refine blk_drewN ?_ _ | refine blk_drew ?_ | refine blk_alloc ?_ _)); exact BK123.out⟩, ⟨by repeat (first | (with_reducible first | exact HB.out | apply below_alloc | apply pw_below_drewN | apply below_drew1 | refine below_set ?_ GE114.out | refine below_set ?_ GE123.out) | exact HB.out)⟩⟩
                                        · rw [if_neg c61] at H
                                          have c61b0 : (x7_36 == 0) = false := beq_eq_false_iff_ne.mpr c61
                                          have c61b1 : (x7_36 != 0) = true := bne_iff_ne.mpr c61
                                          have H' := Aside0.mk H
                                          clear H
                                          go_wp2
                                          repeat (go_quiet (fail); try go_wp2)
                                          go_meet
                                          case rel => exact ⟨_, (false), (by first | rfl | (simp; done) | (simp [*]; done)), H', ⟨by have := HJ1.out; have := HK2.out; have := HJ24.out; have := HK4.out; have := HJ36.out; first | omega | exact Nat.le_refl _⟩, ⟨by (with_reducible repeat (first | apply Kd.R_alloc | apply Kd.R_drewN | apply Kd.R_drew)); exact HO_3.out⟩, ⟨by (with_reducible repeat (first | refine blk_drewN ?_ _ | refine blk_drew ?_ | refine blk_alloc ?_ _)); exact BK114.out⟩, ⟨by (with_reducible repeat (first | refine blk_drewN ?_ _ | refine blk_drew ?_ | refine blk_alloc ?_ _)); exact BK123.out⟩, ⟨by repeat (first | (with_reducible first | exact HB.out | apply below_alloc | apply pw_below_drewN | apply below_drew1 | refine below_set ?_ GE114.out | refine below_set ?_ GE123.out) | exact HB.out)⟩⟩
                                    case rest =>
                                      clear HC48
                                      try clear c1
                                      try clear p1
                                      try clear q1
                                      try clear hx1
                                      try clear c2
                                      try clear p2
                                      try clear c3
                                      try clear c4
                                      try clear c4b0
                                      try clear c5
                                      try clear c6
                                      try clear c6b0
                                      try clear p6
                                      try clear c8
                                      try clear c8b0
                                      try clear c10
                                      try clear c10b0
                                      try clear p11
                                      try clear q11
                                      try clear hx11
                                      try clear p12
                                      try clear q12
                                      try clear hx12
                                      try clear c13
                                      try clear c15
                                      try clear c15b0
                                      try clear c24
                                      try clear c24b0
                                      try clear c26
                                      try clear c26b0
                                      try clear c27
                                      try clear c27b0
                                      try clear c28
                                      try clear c29
                                      try clear c29b0
                                      try clear c30
                                      try clear c30b0
                                      try clear c31
                                      try clear c31b0
                                      try clear c32
                                      try clear c32b0
                                      try clear c33
                                      try clear c33b0
                                      try clear c34
                                      try clear c34b0
                                      try clear c34b1
                                      try clear c35
                                      try clear c35b0
                                      try clear c36
                                      try clear c36b0
                                      try clear c39
                                      try clear c42
                                      try clear c42b0
                                      try clear c43
                                      try clear c43b0
                                      try clear c44
                                      try clear c46
                                      try clear c49
                                      try clear c49b0
                                      try clear c50
                                      try clear c50b0
                                      try clear c50b1
                                      try clear c51
                                      try clear c51b0
                                      try clear c51b1
                                      try clear c52
                                      try clear c52b0
                                      try clear c53
                                      try clear c55
                                      try clear c57
                                      try clear c59
                                      try clear c61
                                      try clear c61b0
                                      try clear c61b1
                                      try clear c62
                                      try clear c62b0
                                      try clear c63
                                      try clear p64
                                      try clear c65
                                      try clear hcz11_0
                                      try clear hcz11_1
                                      try clear hcz11_2
                                      try clear hcz11_3
                                      try clear hcz12_0
                                      try clear hcz12_1
                                      try clear hcz12_2
                                      try clear hcz12_3
                                      try clear hcz16_0
                                      try clear hcz16_1
                                      try clear hcz16_2
                                      try clear hcz16_3
                                      try clear hcz19_0
                                      try clear hcz19_1
                                      try clear hcz19_2
                                      try clear hcz19_3
                                      try clear hcz20_0
                                      try clear hcz20_1
                                      try clear hcz20_2
                                      try clear hcz20_3
                                      try clear hcz23_0
                                      try clear hcz23_1
                                      try clear hcz23_2
                                      try clear hcz23_3
                                      try clear hcz40_0
                                      try clear hcz40_1
                                      try clear hcz40_2
                                      try clear hcz41_0
                                      try clear hcz41_1
                                      try clear hcz41_2
                                      try clear hcz41_3
                                      try clear hcz45_0
                                      try clear hcz45_1
                                      try clear hcz45_2
                                      try clear hcz45_3
                                      try clear hcz47_0
                                      try clear hcz47_1
                                      try clear hcz47_2
                                      try clear hcz47_3
                                      try clear hcz54_0
                                      try clear hcz54_1
                                      try clear hcz54_2
                                      try clear hcz56_0
                                      try clear hcz56_1
                                      try clear hcz56_2
                                      try clear hcz58_0
                                      try clear hcz58_1
                                      try clear hcz58_2
                                      try clear hcz5_0
                                      try clear hcz5_1
                                      try clear hcz5_2
                                      try clear hcz5_3
                                      try clear hcz60_0
                                      try clear hcz60_1
                                      try clear hcz60_2
                                      try clear hcz64_0
                                      try clear hcz64_1
                                      try clear hcz64_2
                                      try clear hcz66_0
                                      try clear hcz66_1
                                      try clear hcz66_2
                                      try clear hcz7_0
                                      try clear hcz7_1
                                      try clear hcz7_2
                                      try clear hcz7_3
                                      try clear hcz9_0
                                      try clear hcz9_1
                                      try clear hcz9_2
                                      try clear hcz9_3
                                      try clear hfz11_0
                                      try clear hfz11_1
                                      try clear hfz11_2
                                      try clear hfz11_3
                                      try clear hfz12_0
                                      try clear hfz12_1
                                      try clear hfz12_2
                                      try clear hfz12_3
                                      try clear hfz16_0
                                      try clear hfz16_1
                                      try clear hfz16_2
                                      try clear hfz16_3
                                      try clear hfz19_0
                                      try clear hfz19_1
                                      try clear hfz19_2
                                      try clear hfz19_3
                                      try clear hfz20_0
                                      try clear hfz20_1
                                      try clear hfz20_2
                                      try clear hfz20_3
                                      try clear hfz23_0
                                      try clear hfz23_1
                                      try clear hfz23_2
                                      try clear hfz23_3
                                      try clear hfz40_0
                                      try clear hfz40_1
                                      try clear hfz40_2
                                      try clear hfz41_0
                                      try clear hfz41_1
                                      try clear hfz41_2
                                      try clear hfz41_3
                                      try clear hfz45_0
                                      try clear hfz45_1
                                      try clear hfz45_2
                                      try clear hfz45_3
                                      try clear hfz47_0
                                      try clear hfz47_1
                                      try clear hfz47_2
                                      try clear hfz47_3
                                      try clear hfz54_0
                                      try clear hfz54_1
                                      try clear hfz54_2
                                      try clear hfz56_0
                                      try clear hfz56_1
                                      try clear hfz56_2
                                      try clear hfz58_0
                                      try clear hfz58_1
                                      try clear hfz58_2
                                      try clear hfz5_0
                                      try clear hfz5_1
                                      try clear hfz5_2
                                      try clear hfz5_3
                                      try clear hfz60_0
                                      try clear hfz60_1
                                      try clear hfz60_2
                                      try clear hfz64_0
                                      try clear hfz64_1
                                      try clear hfz64_2
                                      try clear hfz66_0
                                      try clear hfz66_1
                                      try clear hfz66_2
                                      try clear hfz7_0
                                      try clear hfz7_1
                                      try clear hfz7_2
                                      try clear hfz7_3
                                      try clear hfz9_0
                                      try clear hfz9_1
                                      try clear hfz9_2
                                      try clear hfz9_3
                                      try clear hx118_0
                                      try clear hx118_1
                                      try clear hx118_2
                                      try clear hx118_3
                                      try clear hx119_0
                                      try clear hx119_1
                                      try clear hx119_2
                                      try clear hx119_3
                                      try clear hx120_0
                                      try clear hx120_1
                                      try clear hx120_2
                                      try clear hx120_3
                                      try clear hx121_0
                                      try clear hx121_1
                                      try clear hx121_2
                                      try clear hx121_3
                                      try clear hx122_0
                                      try clear hx122_1
                                      try clear hx122_2
                                      try clear hx122_3
                                      try clear p1
                                      try clear p11
                                      try clear p118
                                      try clear p119
                                      try clear p12
                                      try clear p120
                                      try clear p121
                                      try clear p122
                                      try clear p2
                                      try clear p6
                                      try clear q1
                                      try clear q11
                                      try clear q118
                                      try clear q119
                                      try clear q12
                                      try clear q120
                                      try clear q121
                                      try clear q122
                                      obtain ⟨kq, x122_47, rfl, HA, HJ47, HO_3, BK114, BK123, HB⟩ := hcut
                                      cases kq with
                                      | zero => exact absurd HA.out (by simp [spec_LineOk.j5])
                                      | succ kj47 =>
                                        have H := HA.out
                                        clear HA
                                        simp only [spec_LineOk.j5] at H
                                        by_cases c67 : x122_47 = true
                                        · subst c67
                                          have H1 : (some false) = some r := by rw [if_pos rfl] at H; exact H
                                          clear H
                                          have H := H1
                                          clear H1
                                          obtain rfl := Option.some.inj H
                                          go_wp2
                                          repeat (go_quiet (fail); try go_wp2)
                                          go_ret
                                          exact ⟨by first | rfl | (simp [errW_none, errW_some] <;> rfl) | (simp [*, errW_none, errW_some] <;> rfl), by repeat (first | (with_reducible first | exact HB.out | apply below_alloc | apply pw_below_drewN | apply below_drew1 | refine below_set ?_ GE114.out | refine below_set ?_ GE123.out) | exact HB.out)⟩
                                        · replace c67 := Bool.eq_false_iff.mpr c67
                                          subst c67
                                          have H1 : (if x7_36 = 2 then (if ((rd_T109 t115 x4_2).f1.f1) = 0 then (if x7_36 < 2 then (if ((rd_T109 t115 x4_2).f1.f1) < 1 then (some false) else (if ((rd_T109 t115 x4_2).f1.f1) > 1000 then (some false) else (if ((rd_T109 t115 x4_2).f1.f2) < 1 then (some false) else (if ((rd_T109 t115 x4_2).f1.f2) > 1000 then (some false) else (spec_LineOk.l0 kj47 t115 (wrap64 (x4_2 + 1)) a0_0 l0_1 l0_2 l0_3))))) else (if ((rd_T109 t115 x4_2).f1.f2) < 1 then (some false) else (if ((rd_T109 t115 x4_2).f1.f2) > 1000 then (some false) else (spec_LineOk.l0 kj47 t115 (wrap64 (x4_2 + 1)) a0_0 l0_1 l0_2 l0_3)))) else (some false)) else (if x7_36 < 2 then (if ((rd_T109 t115 x4_2).f1.f1) < 1 then (some false) else (if ((rd_T109 t115 x4_2).f1.f1) > 1000 then (some false) else (if ((rd_T109 t115 x4_2).f1.f2) < 1 then (some false) else (if ((rd_T109 t115 x4_2).f1.f2) > 1000 then (some false) else (spec_LineOk.l0 kj47 t115 (wrap64 (x4_2 + 1)) a0_0 l0_1 l0_2 l0_3))))) else (if ((rd_T109 t115 x4_2).f1.f2) < 1 then (some false) else (if ((rd_T109 t115 x4_2).f1.f2) > 1000 then (some false) else (spec_LineOk.l0 kj47 t115 (wrap64 (x4_2 + 1)) a0_0 l0_1 l0_2 l0_3))))) = some r := by rw [if_neg (show ¬ (false = true) by decide)] at H; exact H
                                          clear H
                                          have H := H1
                                          clear H1
                                          by_cases c68 : x7_36 = 2
                                          · rw [if_pos c68] at H
                                            have c68b0 : (x7_36 == 2) = true := beq_iff_eq.mpr c68
                                            have c68b1 : (x7_36 != 2) = false := bne_eq_false_iff_eq.mpr c68
                                            clear c68
                                            by_cases c69 : ((rd_T109 t115 x4_2).f1.f1) = 0
                                            · rw [if_pos c69] at H
                                              have c69b0 : (((rd_T109 t115 x4_2).f1.f1) == 0) = true := beq_iff_eq.mpr c69
                                              have c69b1 : (((rd_T109 t115 x4_2).f1.f1) != 0) = false := bne_eq_false_iff_eq.mpr c69
                                              clear c69
                                              by_cases c70 : x7_36 < 2
                                              · rw [if_pos c70] at H
                                                have c70b0 : decide (x7_36 < 2) = true := decide_eq_true c70
                                                clear c70
                                                by_cases c71 : ((rd_T109 t115 x4_2).f1.f1) < 1
                                                · rw [if_pos c71] at H
                                                  have c71b0 : decide (((rd_T109 t115 x4_2).f1.f1) < 1) = true := decide_eq_true c71
                                                  clear c71
                                                  obtain rfl := Option.some.inj H
                                                  have hnb72 := NB123_114.out
                                                  have hnc72 := NB114_123.out
                                                  have hcz73_0 : wc.cell? ⟨gb123, 0, none⟩ = some (.int .i64 ((rd_T109 t115 x4_2).f1.f0)) := (blk_cell BK123.out 0).trans rfl
                                                  have hcz73_1 : wc.cell? ⟨gb123, 1, none⟩ = some (.int .i64 ((rd_T109 t115 x4_2).f1.f1)) := (blk_cell BK123.out 1).trans rfl
                                                  have hcz73_2 : wc.cell? ⟨gb123, 2, none⟩ = some (.int .i64 ((rd_T109 t115 x4_2).f1.f2)) := (blk_cell BK123.out 2).trans rfl
                                                  have hfz73_0 := blk_frozen BK123.out 0
                                                  have hfz73_1 := blk_frozen BK123.out 1
                                                  have hfz73_2 := blk_frozen BK123.out 2
                                                  go_wp2
                                                  repeat (go_quiet (fail); try go_wp2)
                                                  go_ret
                                                  exact ⟨by first | rfl | (simp [errW_none, errW_some] <;> rfl) | (simp [*, errW_none, errW_some] <;> rfl), by repeat (first | (with_reducible first | exact HB.out | apply below_alloc | apply pw_below_drewN | apply below_drew1 | refine below_set ?_ GE114.out | refine below_set ?_ GE123.out) | exact HB.out)⟩
                                                · rw [if_neg c71] at H
                                                  have c71b0 : decide (((rd_T109 t115 x4_2).f1.f1) < 1) = false := decide_eq_false c71
                                                  clear c71
                                                  by_cases c74 : ((rd_T109 t115 x4_2).f1.f1) > 1000
                                                  · rw [if_pos c74] at H
                                                    have c74b0 : decide (1000 < ((rd_T109 t115 x4_2).f1.f1)) = true := decide_eq_true c74
                                                    clear c74
                                                    obtain rfl := Option.some.inj H
                                                    have hnb75 := NB123_114.out
                                                    have hnc75 := NB114_123.out
                                                    have hcz76_0 : wc.cell? ⟨gb123, 0, none⟩ = some (.int .i64 ((rd_T109 t115 x4_2).f1.f0)) := (blk_cell BK123.out 0).trans rfl
                                                    have hcz76_1 : wc.cell? ⟨gb123, 1, none⟩ = some (.int .i64 ((rd_T109 t115 x4_2).f1.f1)) := (blk_cell BK123.out 1).trans rfl
                                                    have hcz76_2 : wc.cell? ⟨gb123, 2, none⟩ = some (.int .i64 ((rd_T109 t115 x4_2).f1.f2)) := (blk_cell BK123.out 2).trans rfl
                                                    have hfz76_0 := blk_frozen BK123.out 0
                                                    have hfz76_1 := blk_frozen BK123.out 1
                                                    have hfz76_2 := blk_frozen BK123.out 2
                                                    go_wp2
                                                    repeat (go_quiet (fail); try go_wp2)
                                                    go_ret
                                                    exact ⟨by first | rfl | (simp [errW_none, errW_some] <;> rfl) | (simp [*, errW_none, errW_some] <;> rfl), by repeat (first | (with_reducible first | exact HB.out | apply below_alloc | apply pw_below_drewN | apply below_drew1 | refine below_set ?_ GE114.out | refine below_set ?_ GE123.out) | exact HB.out)⟩
                                                  · rw [if_neg c74] at H
                                                    have c74b0 : decide (1000 < ((rd_T109 t115 x4_2).f1.f1)) = false := decide_eq_false c74
                                                    clear c74
                                                    by_cases c77 : ((rd_T109 t115 x4_2).f1.f2) < 1
                                                    · rw [if_pos c77] at H
                                                      have c77b0 : decide (((rd_T109 t115 x4_2).f1.f2) < 1) = true := decide_eq_true c77
                                                      clear c77
                                                      obtain rfl := Option.some.inj H
                                                      have hnb78 := NB123_114.out
                                                      have hnc78 := NB114_123.out
                                                      have hcz79_0 : wc.cell? ⟨gb123, 0, none⟩ = some (.int .i64 ((rd_T109 t115 x4_2).f1.f0)) := (blk_cell BK123.out 0).trans rfl
                                                      have hcz79_1 : wc.cell? ⟨gb123, 1, none⟩ = some (.int .i64 ((rd_T109 t115 x4_2).f1.f1)) := (blk_cell BK123.out 1).trans rfl
                                                      have hcz79_2 : wc.cell? ⟨gb123, 2, none⟩ = some (.int .i64 ((rd_T109 t115 x4_2).f1.f2)) := (blk_cell BK123.out 2).trans rfl
                                                      have hfz79_0 := blk_frozen BK123.out 0
                                                      have hfz79_1 := blk_frozen BK123.out 1
                                                      have hfz79_2 := blk_frozen BK123.out 2
                                                      go_wp2
                                                      repeat (go_quiet (fail); try go_wp2)
                                                      go_ret
                                                      exact ⟨by first | rfl | (simp [errW_none, errW_some] <;> rfl) | (simp [*, errW_none, errW_some] <;> rfl), by repeat (first | (with_reducible first | exact HB.out | apply below_alloc | apply pw_below_drewN | apply below_drew1 | refine below_set ?_ GE114.out | refine below_set ?_ GE123.out) | exact HB.out)⟩
                                                    · rw [if_neg c77] at H
                                                      have c77b0 : decide (((rd_T109 t115 x4_2).f1.f2) < 1) = false := decide_eq_false c77
                                                      clear c77
                                                      by_cases c80 : ((rd_T109 t115 x4_2).f1.f2) > 1000
                                                      · rw [if_pos c80] at H
                                                        have c80b0 : decide (1000 < ((rd_T109 t115 x4_2).f1.f2)) = true := decide_eq_true c80
                                                        clear c80
                                                        obtain rfl := Option.some.inj H
                                                        have hnb81 := NB123_114.out
                                                        have hnc81 := NB114_123.out
                                                        have hcz82_0 : wc.cell? ⟨gb123, 0, none⟩ = some (.int .i64 ((rd_T109 t115 x4_2).f1.f0)) := (blk_cell BK123.out 0).trans rfl
                                                        have hcz82_1 : wc.cell? ⟨gb123, 1, none⟩ = some (.int .i64 ((rd_T109 t115 x4_2).f1.f1)) := (blk_cell BK123.out 1).trans rfl
                                                        have hcz82_2 : wc.cell? ⟨gb123, 2, none⟩ = some (.int .i64 ((rd_T109 t115 x4_2).f1.f2)) := (blk_cell BK123.out 2).trans rfl
                                                        have hfz82_0 := blk_frozen BK123.out 0
                                                        have hfz82_1 := blk_frozen BK123.out 1
                                                        have hfz82_2 := blk_frozen BK123.out 2
                                                        go_wp2
                                                        repeat (go_quiet (fail); try go_wp2)
                                                        go_ret
                                                        exact ⟨by first | rfl | (simp [errW_none, errW_some] <;> rfl) | (simp [*, errW_none, errW_some] <;> rfl), by repeat (first | (with_reducible first | exact HB.out | apply below_alloc | apply pw_below_drewN | apply below_drew1 | refine below_set ?_ GE114.out | refine below_set ?_ GE123.out) | exact HB.out)⟩
                                                      · rw [if_neg c80] at H
                                                        have c80b0 : decide (1000 < ((rd_T109 t115 x4_2).f1.f2)) = false := decide_eq_false c80
                                                        clear c80
                                                        have H' := Aside0.mk H
                                                        clear H
                                                        have hnb83 := NB123_114.out
                                                        have hnc83 := NB114_123.out
                                                        have hcz84_0 : wc.cell? ⟨gb123, 0, none⟩ = some (.int .i64 ((rd_T109 t115 x4_2).f1.f0)) := (blk_cell BK123.out 0).trans rfl
                                                        have hcz84_1 : wc.cell? ⟨gb123, 1, none⟩ = some (.int .i64 ((rd_T109 t115 x4_2).f1.f1)) := (blk_cell BK123.out 1).trans rfl
                                                        have hcz84_2 : wc.cell? ⟨gb123, 2, none⟩ = some (.int .i64 ((rd_T109 t115 x4_2).f1.f2)) := (blk_cell BK123.out 2).trans rfl
                                                        have hfz84_0 := blk_frozen BK123.out 0
                                                        have hfz84_1 := blk_frozen BK123.out 1
                                                        have hfz84_2 := blk_frozen BK123.out 2
                                                        go_wp2
                                                        repeat (go_quiet (fail); try go_wp2)
                                                        go_roundg kj47
                                                        case measure => have := HJ1.out; have := HK2.out; have := HJ24.out; have := HK4.out; have := HJ36.out; have := HJ47.out; omega
                                                        case rel => exact ⟨(wrap64 (x4_2 + 1)), (by first | rfl | (simp; done) | (simp [*]; done)), H', ⟨by have := HJ1.out; have := HK2.out; have := HJ24.out; have := HK4.out; have := HJ36.out; have := HJ47.out; omega⟩, ⟨by (with_reducible repeat (first | apply Kd.R_alloc | apply Kd.R_drewN | apply Kd.R_drew)); exact HO_3.out⟩, ⟨by (with_reducible repeat (first | refine blk_drewN ?_ _ | refine blk_drew ?_ | refine blk_alloc ?_ _)); exact BK114.out⟩, ⟨by repeat (first | (with_reducible first | exact HB.out | apply below_alloc | apply pw_below_drewN | apply below_drew1 | refine below_set ?_ GE114.out | refine below_set ?_ GE123.out) | exact HB.out)⟩⟩
                                              · rw [if_neg c70] at H
                                                have c70b0 : decide (x7_36 < 2) = false := decide_eq_false c70
                                                clear c70
                                                by_cases c85 : ((rd_T109 t115 x4_2).f1.f2) < 1
                                                · rw [if_pos c85] at H
                                                  have c85b0 : decide (((rd_T109 t115 x4_2).f1.f2) < 1) = true := decide_eq_true c85
                                                  clear c85
                                                  obtain rfl := Option.some.inj H
                                                  have hnb86 := NB123_114.out
                                                  have hnc86 := NB114_123.out
                                                  have hcz87_0 : wc.cell? ⟨gb123, 0, none⟩ = some (.int .i64 ((rd_T109 t115 x4_2).f1.f0)) := (blk_cell BK123.out 0).trans rfl
                                                  have hcz87_1 : wc.cell? ⟨gb123, 1, none⟩ = some (.int .i64 ((rd_T109 t115 x4_2).f1.f1)) := (blk_cell BK123.out 1).trans rfl
                                                  have hcz87_2 : wc.cell? ⟨gb123, 2, none⟩ = some (.int .i64 ((rd_T109 t115 x4_2).f1.f2)) := (blk_cell BK123.out 2).trans rfl
                                                  have hfz87_0 := blk_frozen BK123.out 0
                                                  have hfz87_1 := blk_frozen BK123.out 1
                                                  have hfz87_2 := blk_frozen BK123.out 2
                                                  go_wp2
                                                  repeat (go_quiet (fail); try go_wp2)
                                                  go_ret
                                                  exact ⟨by first | rfl | (simp [errW_none, errW_some] <;> rfl) | (simp [*, errW_none, errW_some] <;> rfl), by repeat (first | (with_reducible first | exact HB.out | apply below_alloc | apply pw_below_drewN | apply below_drew1 | refine below_set ?_ GE114.out | refine below_set ?_ GE123.out) | exact HB.out)⟩
                                                · rw [if_neg c85] at H
                                                  have c85b0 : decide (((rd_T109 t115 x4_2).f1.f2) < 1) = false := decide_eq_false c85
                                                  clear c85
                                                  by_cases c88 : ((rd_T109 t115 x4_2).f1.f2) > 1000
                                                  · rw [if_pos c88] at H
                                                    have c88b0 : decide (1000 < ((rd_T109 t115 x4_2).f1.f2)) = true := decide_eq_true c88
                                                    clear c88
                                                    obtain rfl := Option.some.inj H
                                                    have hnb89 := NB123_114.out
                                                    have hnc89 := NB114_123.out
                                                    have hcz90_0 : wc.cell? ⟨gb123, 0, none⟩ = some (.int .i64 ((rd_T109 t115 x4_2).f1.f0)) := (blk_cell BK123.out 0).trans rfl
                                                    have hcz90_1 : wc.cell? ⟨gb123, 1, none⟩ = some (.int .i64 ((rd_T109 t115 x4_2).f1.f1)) := (blk_cell BK123.out 1).trans rfl
                                                    have hcz90_2 : wc.cell? ⟨gb123, 2, none⟩ = some (.int .i64 ((rd_T109 t115 x4_2).f1.f2)) := (blk_cell BK123.out 2).trans rfl
                                                    have hfz90_0 := blk_frozen BK123.out 0
                                                    have hfz90_1 := blk_frozen BK123.out 1
                                                    have hfz90_2 := blk_frozen BK123.out 2
                                                    go_wp2
                                                    repeat (go_quiet (fail); try go_wp2)
                                                    go_ret
                                                    exact ⟨by first | rfl | (simp [errW_none, errW_some] <;> rfl) | (simp [*, errW_none, errW_some] <;> rfl), by repeat (first | (with_reducible first | exact HB.out | apply below_alloc | apply pw_below_drewN | apply below_drew1 | refine below_set ?_ GE114.out | refine below_set ?_ GE123.out) | exact HB.out)⟩
                                                  · rw [if_neg c88] at H
                                                    have c88b0 : decide (1000 < ((rd_T109 t115 x4_2).f1.f2)) = false := decide_eq_false c88
                                                    clear c88
                                                    have H' := Aside0.mk H
                                                    clear H
                                                    have hnb91 := NB123_114.out
                                                    have hnc91 := NB114_123.out
                                                    have hcz92_0 : wc.cell? ⟨gb123, 0, none⟩ = some (.int .i64 ((rd_T109 t115 x4_2).f1.f0)) := (blk_cell BK123.out 0).trans rfl
                                                    have hcz92_1 : wc.cell? ⟨gb123, 1, none⟩ = some (.int .i64 ((rd_T109 t115 x4_2).f1.f1)) := (blk_cell BK123.out 1).trans rfl
                                                    have hcz92_2 : wc.cell? ⟨gb123, 2, none⟩ = some (.int .i64 ((rd_T109 t115 x4_2).f1.f2)) := (blk_cell BK123.out 2).trans rfl
                                                    have hfz92_0 := blk_frozen BK123.out 0
                                                    have hfz92_1 := blk_frozen BK123.out 1
                                                    have hfz92_2 := blk_frozen BK123.out 2
                                                    go_wp2
                                                    repeat (go_quiet (fail); try go_wp2)
                                                    go_roundg kj47
                                                    case measure => have := HJ1.out; have := HK2.out; have := HJ24.out; have := HK4.out; have := HJ36.out; have := HJ47.out; omega
                                                    case rel => exact ⟨(wrap64 (x4_2 + 1)), (by first | rfl | (simp; done) | (simp [*]; done)), H', ⟨by have := HJ1.out; have := HK2.out; have := HJ24.out; have := HK4.out; have := HJ36.out; have := HJ47.out; omega⟩, ⟨by (with_reducible repeat (first | apply Kd.R_alloc | apply Kd.R_drewN | apply Kd.R_drew)); exact HO_3.out⟩, ⟨by (with_reducible repeat (first | refine blk_drewN ?_ _ | refine blk_drew ?_ | refine blk_alloc ?_ _)); exact BK114.out⟩, ⟨by repeat (first | (with_reducible first | exact HB.out | apply below_alloc | apply pw_below_drewN | apply below_drew1 | refine below_set ?_ GE114.out | refine below_set ?_ GE123.out) | exact HB.out)⟩⟩
                                            · rw [if_neg c69] at H
                                              have c69b0 : (((rd_T109 t115 x4_2).f1.f1) == 0) = false := beq_eq_false_iff_ne.mpr c69
                                              have c69b1 : (((rd_T109 t115 x4_2).f1.f1) != 0) = true := bne_iff_ne.mpr c69
                                              obtain rfl := Option.some.inj H
                                              have hnb93 := NB123_114.out
                                              have hnc93 := NB114_123.out
                                              have hcz94_0 : wc.cell? ⟨gb123, 0, none⟩ = some (.int .i64 ((rd_T109 t115 x4_2).f1.f0)) := (blk_cell BK123.out 0).trans rfl
                                              have hcz94_1 : wc.cell? ⟨gb123, 1, none⟩ = some (.int .i64 ((rd_T109 t115 x4_2).f1.f1)) := (blk_cell BK123.out 1).trans rfl
                                              have hcz94_2 : wc.cell? ⟨gb123, 2, none⟩ = some (.int .i64 ((rd_T109 t115 x4_2).f1.f2)) := (blk_cell BK123.out 2).trans rfl
                                              have hfz94_0 := blk_frozen BK123.out 0
                                              have hfz94_1 := blk_frozen BK123.out 1
                                              have hfz94_2 := blk_frozen BK123.out 2
                                              go_wp2
                                              repeat (go_quiet (fail); try go_wp2)
                                              go_ret
                                              exact ⟨by first | rfl | (simp [errW_none, errW_some] <;> rfl) | (simp [*, errW_none, errW_some] <;> rfl), by repeat (first | (with_reducible first | exact HB.out | apply below_alloc | apply pw_below_drewN | apply below_drew1 | refine below_set ?_ GE114.out | refine below_set ?_ GE123.out) | exact HB.out)⟩
                                          · rw [if_neg c68] at H
                                            have c68b0 : (x7_36 == 2) = false := beq_eq_false_iff_ne.mpr c68
                                            have c68b1 : (x7_36 != 2) = true := bne_iff_ne.mpr c68
                                            by_cases c95 : x7_36 < 2
                                            · rw [if_pos c95] at H
                                              have c95b0 : decide (x7_36 < 2) = true := decide_eq_true c95
                                              clear c95
                                              by_cases c96 : ((rd_T109 t115 x4_2).f1.f1) < 1
                                              · rw [if_pos c96] at H
                                                have c96b0 : decide (((rd_T109 t115 x4_2).f1.f1) < 1) = true := decide_eq_true c96
                                                clear c96
                                                obtain rfl := Option.some.inj H
                                                have hnb97 := NB123_114.out
                                                have hnc97 := NB114_123.out
                                                have hcz98_0 : wc.cell? ⟨gb123, 0, none⟩ = some (.int .i64 ((rd_T109 t115 x4_2).f1.f0)) := (blk_cell BK123.out 0).trans rfl
                                                have hcz98_1 : wc.cell? ⟨gb123, 1, none⟩ = some (.int .i64 ((rd_T109 t115 x4_2).f1.f1)) := (blk_cell BK123.out 1).trans rfl
                                                have hcz98_2 : wc.cell? ⟨gb123, 2, none⟩ = some (.int .i64 ((rd_T109 t115 x4_2).f1.f2)) := (blk_cell BK123.out 2).trans rfl
                                                have hfz98_0 := blk_frozen BK123.out 0
                                                have hfz98_1 := blk_frozen BK123.out 1
                                                have hfz98_2 := blk_frozen BK123.out 2
                                                go_wp2
                                                repeat (go_quiet (fail); try go_wp2)
                                                go_ret
                                                exact ⟨by first | rfl | (simp [errW_none, errW_some] <;> rfl) | (simp [*, errW_none, errW_some] <;> rfl), by repeat (first | (with_reducible first | exact HB.out | apply below_alloc | apply pw_below_drewN | apply below_drew1 | refine below_set ?_ GE114.out | refine below_set ?_ GE123.out) | exact HB.out)⟩
                                              · rw [if_neg c96] at H
                                                have c96b0 : decide (((rd_T109 t115 x4_2).f1.f1) < 1) = false := decide_eq_false c96
                                                clear c96
                                                by_cases c99 : ((rd_T109 t115 x4_2).f1.f1) > 1000
                                                · rw [if_pos c99] at H
                                                  have c99b0 : decide (1000 < ((rd_T109 t115 x4_2).f1.f1)) = true := decide_eq_true c99
                                                  clear c99
                                                  obtain rfl := Option.some.inj H
                                                  have hnb100 := NB123_114.out
                                                  have hnc100 := NB114_123.out
                                                  have hcz101_0 : wc.cell? ⟨gb123, 0, none⟩ = some (.int .i64 ((rd_T109 t115 x4_2).f1.f0)) := (blk_cell BK123.out 0).trans rfl
                                                  have hcz101_1 : wc.cell? ⟨gb123, 1, none⟩ = some (.int .i64 ((rd_T109 t115 x4_2).f1.f1)) := (blk_cell BK123.out 1).trans rfl
                                                  have hcz101_2 : wc.cell? ⟨gb123, 2, none⟩ = some (.int .i64 ((rd_T109 t115 x4_2).f1.f2)) := (blk_cell BK123.out 2).trans rfl
                                                  have hfz101_0 := blk_frozen BK123.out 0
                                                  have hfz101_1 := blk_frozen BK123.out 1
                                                  have hfz101_2 := blk_frozen BK123.out 2
                                                  go_wp2
                                                  repeat (go_quiet (fail); try go_wp2)
                                                  go_ret
                                                  exact ⟨by first | rfl | (simp [errW_none, errW_some] <;> rfl) | (simp [*, errW_none, errW_some] <;> rfl), by repeat (first | (with_reducible first | exact HB.out | apply below_alloc | apply pw_below_drewN | apply below_drew1 | refine below_set ?_ GE114.out | refine below_set ?_ GE123.out) | exact HB.out)⟩
                                                · rw [if_neg c99] at H
                                                  have c99b0 : decide (1000 < ((rd_T109 t115 x4_2).f1.f1)) = false := decide_eq_false c99
                                                  clear c99
                                                  by_cases c102 : ((rd_T109 t115 x4_2).f1.f2) < 1
                                                  · rw [if_pos c102] at H
                                                    have c102b0 : decide (((rd_T109 t115 x4_2).f1.f2) < 1) = true := decide_eq_true c102
                                                    clear c102
                                                    obtain rfl := Option.some.inj H
                                                    have hnb103 := NB123_114.out
                                                    have hnc103 := NB114_123.out
                                                    have hcz104_0 : wc.cell? ⟨gb123, 0, none⟩ = some (.int .i64 ((rd_T109 t115 x4_2).f1.f0)) := (blk_cell BK123.out 0).trans rfl
                                                    have hcz104_1 : wc.cell? ⟨gb123, 1, none⟩ = some (.int .i64 ((rd_T109 t115 x4_2).f1.f1)) := (blk_cell BK123.out 1).trans rfl
                                                    have hcz104_2 : wc.cell? ⟨gb123, 2, none⟩ = some (.int .i64 ((rd_T109 t115 x4_2).f1.f2)) := (blk_cell BK123.out 2).trans rfl
                                                    have hfz104_0 := blk_frozen BK123.out 0
                                                    have hfz104_1 := blk_frozen BK123.out 1
                                                    have hfz104_2 := blk_frozen BK123.out 2
                                                    go_wp2
                                                    repeat (go_quiet (fail); try go_wp2)
                                                    go_ret
                                                    exact ⟨by first | rfl | (simp [errW_none, errW_some] <;> rfl) | (simp [*, errW_none, errW_some] <;> rfl), by repeat (first | (with_reducible first | exact HB.out | apply below_alloc | apply pw_below_drewN | apply below_drew1 | refine below_set ?_ GE114.out | refine below_set ?_ GE123.out) | exact HB.out)⟩
                                                  · rw [if_neg c102] at H
                                                    have c102b0 : decide (((rd_T109 t115 x4_2).f1.f2) < 1) = false := decide_eq_false c102
                                                    clear c102
                                                    by_cases c105 : ((rd_T109 t115 x4_2).f1.f2) > 1000
                                                    · rw [if_pos c105] at H
                                                      have c105b0 : decide (1000 < ((rd_T109 t115 x4_2).f1.f2)) = true := decide_eq_true c105
                                                      clear c105
                                                      obtain rfl := Option.some.inj H
                                                      have hnb106 := NB123_114.out
                                                      have hnc106 := NB114_123.out
                                                      have hcz107_0 : wc.cell? ⟨gb123, 0, none⟩ = some (.int .i64 ((rd_T109 t115 x4_2).f1.f0)) := (blk_cell BK123.out 0).trans rfl
                                                      have hcz107_1 : wc.cell? ⟨gb123, 1, none⟩ = some (.int .i64 ((rd_T109 t115 x4_2).f1.f1)) := (blk_cell BK123.out 1).trans rfl
                                                      have hcz107_2 : wc.cell? ⟨gb123, 2, none⟩ = some (.int .i64 ((rd_T109 t115 x4_2).f1.f2)) := (blk_cell BK123.out 2).trans rfl
                                                      have hfz107_0 := blk_frozen BK123.out 0
                                                      have hfz107_1 := blk_frozen BK123.out 1
                                                      have hfz107_2 := blk_frozen BK123.out 2
                                                      go_wp2
                                                      repeat (go_quiet (fail); try go_wp2)
                                                      go_ret
                                                      exact ⟨by first | rfl | (simp [errW_none, errW_some] <;> rfl) | (simp [*, errW_none, errW_some] <;> rfl), by repeat (first | (with_reducible first | exact HB.out | apply below_alloc | apply pw_below_drewN | apply below_drew1 | refine below_set ?_ GE114.out | refine below_set ?_ GE123.out) | exact HB.out)⟩
                                                    · rw [if_neg c105] at H
                                                      have c105b0 : decide (1000 < ((rd_T109 t115 x4_2).f1.f2)) = false := decide_eq_false c105
                                                      clear c105
                                                      have H' := Aside0.mk H
                                                      clear H
                                                      have hnb108 := NB123_114.out
                                                      have hnc108 := NB114_123.out
                                                      have hcz109_0 : wc.cell? ⟨gb123, 0, none⟩ = some (.int .i64 ((rd_T109 t115 x4_2).f1.f0)) := (blk_cell BK123.out 0).trans rfl
                                                      have hcz109_1 : wc.cell? ⟨gb123, 1, none⟩ = some (.int .i64 ((rd_T109 t115 x4_2).f1.f1)) := (blk_cell BK123.out 1).trans rfl
                                                      have hcz109_2 : wc.cell? ⟨gb123, 2, none⟩ = some (.int .i64 ((rd_T109 t115 x4_2).f1.f2)) := (blk_cell BK123.out 2).trans rfl
                                                      have hfz109_0 := blk_frozen BK123.out 0
                                                      have hfz109_1 := blk_frozen BK123.out 1
                                                      have hfz109_2 := blk_frozen BK123.out 2
                                                      go_wp2
                                                      repeat (go_quiet (fail); try go_wp2)
                                                      go_roundg kj47
                                                      case measure => have := HJ1.out; have := HK2.out; have := HJ24.out; have := HK4.out; have := HJ36.out; have := HJ47.out; omega
                                                      case rel => exact ⟨(wrap64 (x4_2 + 1)), (by first | rfl | (simp; done) | (simp [*]; done)), H', ⟨by have := HJ1.out; have := HK2.out; have := HJ24.out; have := HK4.out; have := HJ36.out; have := HJ47.out; omega⟩, ⟨by (with_reducible repeat (first | apply Kd.R_alloc | apply Kd.R_drewN | apply Kd.R_drew)); exact HO_3.out⟩, ⟨by (with_reducible repeat (first | refine blk_drewN ?_ _ | refine blk_drew ?_ | refine blk_alloc ?_ _)); exact BK114.out⟩, ⟨by repeat (first | (with_reducible first | exact HB.out | apply below_alloc | apply pw_below_drewN | apply below_drew1 | refine below_set ?_ GE114.out | refine below_set ?_ GE123.out) | exact HB.out)⟩⟩
                                            · rw [if_neg c95] at H
                                              have c95b0 : decide (x7_36 < 2) = false := decide_eq_false c95
                                              clear c95
                                              by_cases c110 : ((rd_T109 t115 x4_2).f1.f2) < 1
                                              · rw [if_pos c110] at H
                                                have c110b0 : decide (((rd_T109 t115 x4_2).f1.f2) < 1) = true := decide_eq_true c110
                                                clear c110
                                                obtain rfl := Option.some.inj H
                                                have hnb111 := NB123_114.out
                                                have hnc111 := NB114_123.out
                                                have hcz112_0 : wc.cell? ⟨gb123, 0, none⟩ = some (.int .i64 ((rd_T109 t115 x4_2).f1.f0)) := (blk_cell BK123.out 0).trans rfl
                                                have hcz112_1 : wc.cell? ⟨gb123, 1, none⟩ = some (.int .i64 ((rd_T109 t115 x4_2).f1.f1)) := (blk_cell BK123.out 1).trans rfl
                                                have hcz112_2 : wc.cell? ⟨gb123, 2, none⟩ = some (.int .i64 ((rd_T109 t115 x4_2).f1.f2)) := (blk_cell BK123.out 2).trans rfl
                                                have hfz112_0 := blk_frozen BK123.out 0
                                                have hfz112_1 := blk_frozen BK123.out 1
                                                have hfz112_2 := blk_frozen BK123.out 2
                                                go_wp2
                                                repeat (go_quiet (fail); try go_wp2)
                                                go_ret
                                                exact ⟨by first | rfl | (simp [errW_none, errW_some] <;> rfl) | (simp [*, errW_none, errW_some] <;> rfl), by repeat (first | (with_reducible first | exact HB.out | apply below_alloc | apply pw_below_drewN | apply below_drew1 | refine below_set ?_ GE114.out | refine below_set ?_ GE123.out) | exact HB.out)⟩
                                              · rw [if_neg c110] at H
                                                have c110b0 : decide (((rd_T109 t115 x4_2).f1.f2) < 1) = false := decide_eq_false c110
                                                clear c110
                                                by_cases c113 : ((rd_T109 t115 x4_2).f1.f2) > 1000
                                                · rw [if_pos c113] at H
                                                  have c113b0 : decide (1000 < ((rd_T109 t115 x4_2).f1.f2)) = true := decide_eq_true c113
                                                  clear c113
                                                  obtain rfl := Option.some.inj H
                                                  have hnb114 := NB123_114.out
                                                  have hnc114 := NB114_123.out
                                                  have hcz115_0 : wc.cell? ⟨gb123, 0, none⟩ = some (.int .i64 ((rd_T109 t115 x4_2).f1.f0)) := (blk_cell BK123.out 0).trans rfl
                                                  have hcz115_1 : wc.cell? ⟨gb123, 1, none⟩ = some (.int .i64 ((rd_T109 t115 x4_2).f1.f1)) := (blk_cell BK123.out 1).trans rfl
                                                  have hcz115_2 : wc.cell? ⟨gb123, 2, none⟩ = some (.int .i64 ((rd_T109 t115 x4_2).f1.f2)) := (blk_cell BK123.out 2).trans rfl
                                                  have hfz115_0 := blk_frozen BK123.out 0
                                                  have hfz115_1 := blk_frozen BK123.out 1
                                                  have hfz115_2 := blk_frozen BK123.out 2
                                                  go_wp2
                                                  repeat (go_quiet (fail); try go_wp2)
                                                  go_ret
                                                  exact ⟨by first | rfl | (simp [errW_none, errW_some] <;> rfl) | (simp [*, errW_none, errW_some] <;> rfl), by repeat (first | (with_reducible first | exact HB.out | apply below_alloc | apply pw_below_drewN | apply below_drew1 | refine below_set ?_ GE114.out | refine below_set ?_ GE123.out) | exact HB.out)⟩
                                                · rw [if_neg c113] at H
                                                  have c113b0 : decide (1000 < ((rd_T109 t115 x4_2).f1.f2)) = false := decide_eq_false c113
                                                  clear c113
                                                  have H' := Aside0.mk H
                                                  clear H
                                                  have hnb116 := NB123_114.out
                                                  have hnc116 := NB114_123.out
                                                  have hcz117_0 : wc.cell? ⟨gb123, 0, none⟩ = some (.int .i64 ((rd_T109 t115 x4_2).f1.f0)) := (blk_cell BK123.out 0).trans rfl
                                                  have hcz117_1 : wc.cell? ⟨gb123, 1, none⟩ = some (.int .i64 ((rd_T109 t115 x4_2).f1.f1)) := (blk_cell BK123.out 1).trans rfl
                                                  have hcz117_2 : wc.cell? ⟨gb123, 2, none⟩ = some (.int .i64 ((rd_T109 t115 x4_2).f1.f2)) := (blk_cell BK123.out 2).trans rfl
                                                  have hfz117_0 := blk_frozen BK123.out 0
                                                  have hfz117_1 := blk_frozen BK123.out 1
                                                  have hfz117_2 := blk_frozen BK123.out 2
                                                  go_wp2
                                                  repeat (go_quiet (fail); try go_wp2)
                                                  go_roundg kj47
                                                  case measure => have := HJ1.out; have := HK2.out; have := HJ24.out; have := HK4.out; have := HJ36.out; have := HJ47.out; omega
                                                  case rel => exact ⟨(wrap64 (x4_2 + 1)), (by first | rfl | (simp; done) | (simp [*]; done)), H', ⟨by have := HJ1.out; have := HK2.out; have := HJ24.out; have := HK4.out; have := HJ36.out; have := HJ47.out; omega⟩, ⟨by (with_reducible repeat (first | apply Kd.R_alloc | apply Kd.R_drewN | apply Kd.R_drew)); exact HO_3.out⟩, ⟨by (with_reducible repeat (first | refine blk_drewN ?_ _ | refine blk_drew ?_ | refine blk_alloc ?_ _)); exact BK114.out⟩, ⟨by repeat (first | (with_reducible first | exact HB.out | apply below_alloc | apply pw_below_drewN | apply below_drew1 | refine below_set ?_ GE114.out | refine below_set ?_ GE123.out) | exact HB.out)⟩⟩
                              · rw [if_neg c36] at H
                                exact absurd H (by simp)
                            · rw [if_neg c35] at H
                              exact absurd H (by simp)
              · rw [if_neg c24] at H
                have c24b0 : decide (x4_2 < (t115.length : Int)) = false := decide_eq_false c24
                clear c24
                obtain rfl := Option.some.inj H
                go_wp2
                repeat (go_quiet (fail); try go_wp2)
                go_ret
                exact ⟨by first | rfl | (simp [errW_none, errW_some] <;> rfl) | (simp [*, errW_none, errW_some] <;> rfl), by repeat (first | (with_reducible first | exact HB.out | apply below_alloc | apply pw_below_drewN | apply below_drew1 | refine below_set ?_ GE114.out) | exact HB.out)⟩

end Go.Proofs.Yteecolnemffffaa.PFnExactLineNew
