/- The program's LineNew returns the line that the reference's LineNew returns, for every whole number, and two calls share no memory. No condition. -/
import Derived.Test.YteecolnemffffaaPFnExactLineNewx4
namespace Go.Proofs.Yteecolnemffffaa.Pure
open Go.RowKit Go.Proofs.Yteecolnemffffaa.PFnExactLineNew Go.Proofs.YteecolnemffffaaW.PrintWords Go.Proofs.YteecolnemffffaaW.PrintLast

theorem lineOk_nil (k : Nat) (a : Int) : spec_LineOk.f (k + 2) a [] [] [] = some (decide (1 ≤ a ∧ a ≤ 16)) := by
  unfold spec_LineOk.f
  by_cases h1 : a < 1
  · rw [if_pos h1]; simp [spec_LineOk.j0]; omega
  · rw [if_neg h1]
    by_cases h2 : a > 16
    · rw [if_pos h2]; simp [spec_LineOk.j0]; omega
    · rw [if_neg h2, if_neg (by simp; omega), if_neg (by simp; omega)]
      have h3 : decide ((([] : List S109).length : Int) > a) = false := by simp; omega
      have h4 : decide (1 ≤ a ∧ a ≤ 16) = true := by simp; omega
      have h5 : ¬ a < 0 := by omega
      rw [h3, h4]
      simp only [spec_LineOk.j0, spec_l21All.f, spec_LineOk.l0]
      simp [h5]

theorem lineNew_impl (a : Int) : impl_LineNew.f a = some (if 1 ≤ a ∧ a ≤ 16 then a else 0, [], [], []) := by
  unfold impl_LineNew.f impl_within.f
  by_cases h1 : a ≥ 1
  · rw [if_pos h1]
    by_cases h2 : a ≤ 16
    · simp [h1, h2]
    · simp [h2]
  · rw [if_neg h1]; simp; omega

theorem lineNew_spec (k : Nat) (a : Int) : spec_LineNew.f (k + 2) a = some (if 1 ≤ a ∧ a ≤ 16 then a else 0, [], [], []) := by
  unfold spec_LineNew.f
  rw [lineOk_nil]
  by_cases h : 1 ≤ a ∧ a ≤ 16
  · simp [h]
  · simp [h]

theorem FnExactLineNew : laws_FnExactLineNew.Pure := by
  intro a _
  refine ⟨2, ?_⟩
  unfold laws_FnExactLineNew.f
  rw [lineNew_spec 0 a, lineNew_impl a]
  simp [laws_eqLine.f, laws_eqJobS.f, laws_eqJobS.l0, laws_markLine.f, laws_markJobS.f, laws_markJobS.l0, laws_heldLine.f, laws_heldJobS.f, laws_heldJobS.l0]

end Go.Proofs.Yteecolnemffffaa.Pure
