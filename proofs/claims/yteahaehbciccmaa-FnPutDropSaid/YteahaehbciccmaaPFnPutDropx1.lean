-- by a program of this session's, over the kit's words
import Derived.Test.YteahaehbciccmaaPFnPutDropx0
namespace Go.Proofs.Yteahaehbciccmaa.PFnPutDrop
open Go.RowKit Go.Proofs.YteahaehbciccmaaW.PrintWords Go.Proofs.YteahaehbciccmaaW.PrintLast Go.Proofs.YteahaehbciccmaaW.PrintMore Go.Proofs.YteahaehbciccmaaV
open Go.Value renaming int → I, slice → Y
open Go.IntKind renaming i64 → L
open Aside0 renaming mk → D
open Option renaming bind_eq_some_iff → bs_
attribute [local go_sem] qad_ qab_ qak_ qaj_ q4_ q3_ qac_ qaa_
set_option linter.unusedVariables false
set_option linter.unusedSimpArgs false
theorem eqA28 (d:Nat) (w:World) (x0 a:Int) (x1 b:Int) (x2 c:Int) (x3 e:Int) (x4 g:Int) :
  (Op.equalIn (d+2) 28 (.agg #[I L x0,I L x1,I L x2,I L x3,I L x4]) (.agg #[I L a,I L b,I L c,I L e,I L g])).run Try.prog w=.ok (x0 == a && (x1 == b && (x2 == c && (x3 == e && (x4 == g))))) w:=by
 refine eqA_of Try.underlying28 (by kernel_rfl) ?_
 refine eqf_cons (by rfl) (by go_simp;rfl) (by go_simp;rfl) (by go_simp) ?_
 refine eqf_cons (by rfl) (by go_simp;rfl) (by go_simp;rfl) (by go_simp) ?_
 refine eqf_cons (by rfl) (by go_simp;rfl) (by go_simp;rfl) (by go_simp) ?_
 refine eqf_cons (by rfl) (by go_simp;rfl) (by go_simp;rfl) (by go_simp) ?_
 exact eqf_last (by rfl) (by go_simp;rfl) (by go_simp;rfl) (by go_simp)
theorem eqA30 (d:Nat) (w:World) (x0 a:Int) (x1 b:Int) (x2 c:Int) (x3 e:Int) (x4 g:Int) (x5 h:Int) (x6 i:Int) (x7 j:Int) (x8 k:Int) (x9 l:Int) (x10 m:Int) (x11 n:Int) (x12 o:Int) :
  (Op.equalIn (d+3) 30 (.agg #[I L x0,I L x1,I L x2,I L x3,I L x4,I L x5,I L x6,I L x7,I L x8,I L x9,I L x10,I L x11,I L x12]) (.agg #[I L a,I L b,I L c,I L e,I L g,I L h,I L i,I L j,I L k,I L l,I L m,I L n,I L o])).run Try.prog w=.ok ((x0 == a && (x1 == b && (x2 == c && (x3 == e && (x4 == g))))) && ((x5 == h && (x6 == i && (x7 == j && (x8 == k && (x9 == l))))) && (x10 == m && (x11 == n && (x12 == o))))) w:=by
 refine eqA_of Try.underlying30 (by kernel_rfl) ?_
 refine eqf_cons (by rfl) (by go_simp) (by go_simp) (eqA28 (d+0) w _ _ _ _ _ _ _ _ _ _) ?_
 refine eqf_cons (by rfl) (by go_simp) (by go_simp) (eqA28 (d+0) w _ _ _ _ _ _ _ _ _ _) ?_
 refine eqf_cons (by rfl) (by go_simp;rfl) (by go_simp;rfl) (by go_simp) ?_
 refine eqf_cons (by rfl) (by go_simp;rfl) (by go_simp;rfl) (by go_simp) ?_
 exact eqf_last (by rfl) (by go_simp;rfl) (by go_simp;rfl) (by go_simp)
theorem eqA32 (d:Nat) (w:World) (x0 a:Int) (x1 b:Int) (x2 c:Int) (x3 e:Int) (x4 g:Int) (x5 h:Int) (x6 i:Int) (x7 j:Int) (x8 k:Int) (x9 l:Int) (x10 m:Int) (x11 n:Int) (x12 o:Int) (x13 p:Int) :
  (Op.equalIn (d+4) 32 (.agg #[I L x0,I L x1,I L x2,I L x3,I L x4,I L x5,I L x6,I L x7,I L x8,I L x9,I L x10,I L x11,I L x12,I L x13]) (.agg #[I L a,I L b,I L c,I L e,I L g,I L h,I L i,I L j,I L k,I L l,I L m,I L n,I L o,I L p])).run Try.prog w=.ok (x0 == a && (((x1 == b && (x2 == c && (x3 == e && (x4 == g && (x5 == h))))) && ((x6 == i && (x7 == j && (x8 == k && (x9 == l && (x10 == m))))) && (x11 == n && (x12 == o && (x13 == p))))))) w:=by
 refine eqA_of Try.underlying32 (by kernel_rfl) ?_
 refine eqf_cons (by rfl) (by go_simp;rfl) (by go_simp;rfl) (by go_simp) ?_
 exact eqf_last (by rfl) (by go_simp) (by go_simp) (eqA30 (d+0) w _ _ _ _ _ _ _ _ _ _ _ _ _ _ _ _ _ _ _ _ _ _ _ _ _ _)
end Go.Proofs.Yteahaehbciccmaa.PFnPutDrop
