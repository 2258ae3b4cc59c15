-- by a program of this session's, over the kit's words
import Derived.Test.YtcdangcjbijfkabPFnExactLinePutx11
namespace Go.Proofs.Ytcdangcjbijfkab.PFnExactLinePut
open Go.RowKit Go.Proofs.YtcdangcjbijfkabW.PrintWords Go.Proofs.YtcdangcjbijfkabW.PrintLast Go.Proofs.YtcdangcjbijfkabW.PrintMore Go.Proofs.YtcdangcjbijfkabV Go.Proofs.Ytcdangcjbijfkab.ZFnExactLinePut
set_option linter.unusedVariables false
set_option linter.unusedSimpArgs false
/-- What is known of a struct of type 26 that came in. -/
def OK26 (x : S26) : Prop := (Lit.int .i64 x.f0).wf = true ∧ (Lit.int .i64 x.f1).wf = true ∧ (Lit.int .i64 x.f2).wf = true
theorem opens26 : Opens Try.prog k26 OK26 26 := by
 have h:=opens_struct Try.underlying26 (by kernel_rfl) (opensF_cons (opens_int Try.underlying3 (by kernel_rfl)) rfl (opensF_cons (opens_int Try.underlying3 (by kernel_rfl)) rfl (opensF_one (opens_int Try.underlying3 (by kernel_rfl)) rfl))) (fun x:S26=>(x.f0,x.f1,x.f2)) (fun y:Int × Int × Int=>(⟨y.1,y.2.1,y.2.2⟩:S26)) (fun _=>rfl)
 exact h
/-- What is known of a struct of type 28 that came in. -/
def OK28 (x : S28) : Prop := (Lit.int .i64 x.f0).wf = true ∧ OK26 x.f1
theorem opens28 : Opens Try.prog k28 OK28 28 := by
 have h:=opens_struct Try.underlying28 (by kernel_rfl) (opensF_cons (opens_int Try.underlying3 (by kernel_rfl)) rfl (opensF_one opens26 rfl)) (fun x:S28=>(x.f0,x.f1)) (fun y:Int × S26=>(⟨y.1,y.2⟩:S28)) (fun _=>rfl)
 exact h
/-- What is known of a struct of type 24 that came in. -/
def OK24 (x : S24) : Prop := (Lit.int .i64 x.f0).wf = true ∧ (x.f1.length ≤ maxLen ∧ ∀ z0_ ∈ x.f1, OK28 z0_) ∧ (x.f2.length ≤ maxLen ∧ ∀ z0_ ∈ x.f2, OK28 z0_) ∧ (x.f3.length ≤ maxLen ∧ ∀ z0_ ∈ x.f3, OK28 z0_)
theorem opens24 : Opens Try.prog k24 OK24 24 := by
 have h:=opens_struct Try.underlying24 (by kernel_rfl) (opensF_cons (opens_int Try.underlying3 (by kernel_rfl)) rfl (opensF_cons (opens_slice Try.underlying22 (by kernel_rfl) opens28) rfl (opensF_cons (opens_slice Try.underlying22 (by kernel_rfl) opens28) rfl (opensF_one (opens_slice Try.underlying22 (by kernel_rfl) opens28) rfl)))) (fun x:S24=>(x.f0,x.f1,x.f2,x.f3)) (fun y:Int × (List (S28)) × (List (S28)) × (List (S28))=>(⟨y.1,y.2.1,y.2.2.1,y.2.2.2⟩:S24)) (fun _=>rfl)
 exact h
/-- THE ONE PURE STATEMENT of laws_FnExactLinePut: yours. -/
def laws_FnExactLinePut.Pure : Prop := ∀ (y0 : S24) (y1 : S28), OK24 y0 → OK28 y1 → ∃ k, laws_FnExactLinePut.f k y0.f0 y0.f1 y0.f2 y0.f3 y1.f0 y1.f1.f0 y1.f1.f1 y1.f1.f2 = some true
theorem laws_FnExactLinePut.walk (P : laws_FnExactLinePut.Pure) (y0 : S24) (A0_1 : Option Addr) (c0_1 : Nat) (A0_2 : Option Addr) (c0_2 : Nat) (A0_3 : Option Addr) (c0_3 : Nat) (y1 : S28) (w : World) (hc0_1 : y0.f1.length ≤ c0_1) (hr0_1 : Kd.C k28 w A0_1 y0.f1.length y0.f1) (hc0_2 : y0.f2.length ≤ c0_2) (hr0_2 : Kd.C k28 w A0_2 y0.f2.length y0.f2) (hc0_3 : y0.f3.length ≤ c0_3) (hr0_3 : Kd.C k28 w A0_3 y0.f3.length y0.f3) (ok0 : OK24 y0) (ok1 : OK28 y1) :
  Calls Try.prog 3 #[.agg #[.int .i64 y0.f0,.slice A0_1 y0.f1.length c0_1,.slice A0_2 y0.f2.length c0_2,.slice A0_3 y0.f3.length c0_3],.agg #[.int .i64 y1.f0,.int .i64 y1.f1.f0,.int .i64 y1.f1.f1,.int .i64 y1.f1.f2]] w fun e w'=>e=.returned (.bool true)∧Below w.heap.size w w':=by
 obtain ⟨k, h⟩ := P y0 y1 ok0 ok1
 refine (laws_FnExactLinePut.calls k y0.f0 _ _ y0.f1 _ _ y0.f2 _ _ y0.f3 y1.f0 y1.f1.f0 y1.f1.f1 y1.f1.f2 true w hr0_1 hc0_1 hr0_2 hc0_2 hr0_3 hc0_3 ⟨rfl⟩ h).mono ?_
 rintro e w' ⟨rfl, hd⟩
 exact ⟨rfl, hd⟩
end Go.Proofs.Ytcdangcjbijfkab.PFnExactLinePut
