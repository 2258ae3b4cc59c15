-- by a program of this session's, over the kit's words
import Derived.Test.YtpkdkhhknmlpjaaPFnTakenAddsx0
namespace Go.Proofs.Ytpkdkhhknmlpjaa.PFnTakenAdds
open Go.RowKit Go.Proofs.YtpkdkhhknmlpjaaW.PrintWords Go.Proofs.YtpkdkhhknmlpjaaW.PrintLast Go.Proofs.YtpkdkhhknmlpjaaW.PrintMore Go.Proofs.YtpkdkhhknmlpjaaV
open Go.Value renaming int → I, slice → Y
open Go.IntKind renaming i64 → L
open Aside0 renaming mk → D
open Option renaming bind_eq_some_iff → bs_
attribute [local go_sem] max2_int min2_int max_two min_two max_three min_three max_four min_four   -- for this text's walks alone
set_option linter.unusedVariables false
set_option linter.unusedSimpArgs false

theorem eqA29 (d : Nat) (w : World) (x0 y0 : Int) (x1 y1 : Int) (x2 y2 : Int) :
  (Op.equalIn (d + 2) 29 (.agg #[I L x0, I L x1, I L x2]) (.agg #[I L y0, I L y1, I L y2])).run Try.prog w = .ok (x0 == y0 && (x1 == y1 && (x2 == y2))) w := by
 refine eqA_of Try.underlying29 (by kernel_rfl) ?_
 refine eqf_cons (by rfl) (by go_simp; rfl) (by go_simp; rfl) (by go_simp) ?_
 refine eqf_cons (by rfl) (by go_simp; rfl) (by go_simp; rfl) (by go_simp) ?_
 exact eqf_last (by rfl) (by go_simp; rfl) (by go_simp; rfl) (by go_simp)
end Go.Proofs.Ytpkdkhhknmlpjaa.PFnTakenAdds
