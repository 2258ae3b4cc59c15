/- The program's GapBound returns what the reference's GapBound returns, for all three whole numbers. No condition. -/
import Derived.Test.YteecolnemffffaaPFnExactGapBoundx1
namespace Go.Proofs.Yteecolnemffffaa.Pure
open Go.RowKit Go.Proofs.Yteecolnemffffaa.PFnExactGapBound Go.Proofs.YteecolnemffffaaW.PrintWords Go.Proofs.YteecolnemffffaaW.PrintLast

theorem w_of (b : Int) : impl_isWeight.f b = some (decide (1 ≤ b ∧ b ≤ 10)) := by
  unfold impl_isWeight.f impl_within.f
  by_cases h : b ≥ 1
  · rw [if_pos h]; simp; omega
  · rw [if_neg h]; simp; omega

theorem d_of (b : Int) : impl_isDelta.f b = some (decide (0 ≤ b ∧ b ≤ 10000000)) := by
  unfold impl_isDelta.f impl_within.f
  by_cases h : b ≥ 0
  · rw [if_pos h]; simp; omega
  · rw [if_neg h]; simp; omega

theorem sd_of (b : Int) : spec_l13Delta.f b = some (decide (0 ≤ b ∧ b ≤ 10000000)) := by
  unfold spec_l13Delta.f
  by_cases h : b ≥ 0
  · rw [if_pos h]; simp; omega
  · rw [if_neg h]; simp; omega

theorem wrap_stride (b : Int) (h0 : 1 ≤ b) : wrap64 (Int.tdiv 2520 b) = 2520 / b := by
  have e : Int.tdiv 2520 b = 2520 / b := Int.tdiv_eq_ediv_of_nonneg (by omega)
  have h1 : 0 ≤ 2520 / b := Int.ediv_nonneg (by omega) (by omega)
  have h2 : 2520 / b ≤ 2520 := Int.ediv_le_self _ (by omega)
  rw [e]; unfold wrap64; omega

/-- The stride of a weight. -/
def stride (b : Int) : Int := if 1 ≤ b ∧ b ≤ 10 then 2520 / b else 0

theorem is_of (b : Int) : impl_Stride.f b = some (stride b) := by
  unfold impl_Stride.f stride
  rw [w_of]
  by_cases h : 1 ≤ b ∧ b ≤ 10
  · simp only [Option.bind_some, h, and_self, decide_true, if_true]
    rw [if_neg (by omega), wrap_stride b h.1]
  · simp [h]

theorem ss_of (b : Int) : spec_Stride.f b = some (stride b) := by
  unfold spec_Stride.f stride
  by_cases h1 : b < 1
  · rw [if_pos h1, if_neg (by omega)]
  · rw [if_neg h1]
    by_cases h2 : b > 10
    · rw [if_pos h2, if_neg (by omega)]
    · rw [if_neg h2, if_neg (by omega), if_pos (by omega), wrap_stride b (by omega)]

theorem stride_zero (b : Int) : stride b = 0 ↔ ¬ (1 ≤ b ∧ b ≤ 10) := by
  unfold stride
  by_cases h : 1 ≤ b ∧ b ≤ 10
  · rw [if_pos h]
    have h1 : 1 ≤ 2520 / b := by
      rw [Int.le_ediv_iff_mul_le (by omega)]; omega
    constructor
    · intro h2; omega
    · intro h2; exact absurd h h2
  · rw [if_neg h]; simp [h]

theorem FnExactGapBound : laws_FnExactGapBound.Pure := by
  intro a b d _ _ _
  refine ⟨1, ?_⟩
  have e : spec_GapBound.f 1 a b d = impl_GapBound.f 1 a b d := by
    unfold spec_GapBound.f impl_GapBound.f
    simp only [ss_of, w_of, d_of, sd_of, Option.bind_some, stride_zero, spec_GapBound.j0, impl_GapBound.j0, is_of]
    by_cases h1 : 1 ≤ a ∧ a ≤ 10 <;> by_cases h2 : 1 ≤ b ∧ b ≤ 10 <;> by_cases h3 : 0 ≤ d ∧ d ≤ 10000000 <;> simp [h1, h2, h3]
  unfold laws_FnExactGapBound.f
  rw [← e]
  cases h : spec_GapBound.f 1 a b d with
  | some r => simp
  | none =>
    exfalso
    unfold spec_GapBound.f at h
    simp only [ss_of, sd_of, Option.bind_some, spec_GapBound.j0] at h
    revert h
    repeat' split
    all_goals simp

end Go.Proofs.Yteecolnemffffaa.Pure
