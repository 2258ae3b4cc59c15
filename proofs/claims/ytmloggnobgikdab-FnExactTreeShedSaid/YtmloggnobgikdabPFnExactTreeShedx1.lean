-- by a program of this session's, over the kit's words
import Derived.Test.YtmloggnobgikdabPFnExactTreeShedx0
namespace Go.Proofs.Ytmloggnobgikdab.PFnExactTreeShed
open Go.RowKit Go.Proofs.YtmloggnobgikdabW.PrintWords Go.Proofs.YtmloggnobgikdabW.PrintLast Go.Proofs.YtmloggnobgikdabW.PrintMore Go.Proofs.YtmloggnobgikdabV
open Go.Value renaming int → I, slice → Y
open Go.IntKind renaming i64 → L
open Aside0 renaming mk → D
open Option renaming bind_eq_some_iff → bs_
attribute [local go_sem] max2_int min2_int max_two min_two max_three min_three max_four min_four   -- for this text's walks alone
set_option linter.unusedVariables false
set_option linter.unusedSimpArgs false

theorem eqA31 (d : Nat) (w : World) (x0 y0 : Int) (x1 y1 : Int) (x2 y2 : Int) :
  (Op.equalIn (d + 2) 31 (.agg #[I L x0, I L x1, I L x2]) (.agg #[I L y0, I L y1, I L y2])).run Try.prog w = .ok (x0 == y0 && (x1 == y1 && (x2 == y2))) w := by
 refine eqA_of Try.underlying31 (by kernel_rfl) ?_
 refine eqf_cons (by rfl) (by go_simp; rfl) (by go_simp; rfl) (by go_simp) ?_
 refine eqf_cons (by rfl) (by go_simp; rfl) (by go_simp; rfl) (by go_simp) ?_
 exact eqf_last (by rfl) (by go_simp; rfl) (by go_simp; rfl) (by go_simp)
end Go.Proofs.Ytmloggnobgikdab.PFnExactTreeShed
