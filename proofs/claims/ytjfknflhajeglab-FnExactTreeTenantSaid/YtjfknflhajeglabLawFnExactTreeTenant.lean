-- by a program of this session's, over the kit's words
import Derived.Test.YtjfknflhajeglabRows
import Derived.Test.YtjfknflhajeglabPFnExactTreeTenantx20
import Derived.Test.YtjfknflhajeglabPureFnExactTreeTenant
import Derived.Test.YtjfknflhajeglabVOpen
import Derived.WalkKit
import Derived.ProofKit
import Derived.OpenShut
import Derived.ShutString
import Derived.ChangeOld
import Derived.Below
import Derived.SizedLaws
import Derived.WideShapes
namespace Go.Proofs.Ytjfknflhajeglab.fnExactTreeTenant
open Go.ChangeShapes Go.WideShapes Go.ChangeAt Go.RowKit Go.Proofs.YtjfknflhajeglabV Go.Proofs.YtjfknflhajeglabW.PrintWords Go.Proofs.Ytjfknflhajeglab.PFnExactTreeTenant
open Go.ChangeMaps (open_string shut_string)
set_option linter.unusedVariables false
theorem own : ownKnob Try.prog.godebug = none := by kernel_rfl
theorem laidOut : laidOutB Try.prog = true := by kernel_rfl
set_option maxHeartbeats 4000000 in
set_option maxRecDepth 100000 in
theorem lifted (os : Os) (started : os.Started) (H : Type) (enc : TypeId × Value → H) :
    ReturnsInHanded {} Try.checked os 3 .any (Rows.fnExactTreeTenantSpec.pre6 enc Try.prog Try.f3 Rows.fnExactTreeTenantRow.domain false) (Rows.fnExactTreeTenantSpec.post enc Try.prog Try.f3 false true false false) := by
  refine returnsInHanded_of_change_sized (C := Try.checked) own started (by kernel_rfl) Try.func3
    (ChangeSpec.witness6 (enc := enc) (C := Try.checked) false ⟨#[], #[.agg #[.int .i64 0, .int .i64 0, .int .i64 0, .int .i64 0, .slice none 0 0, .slice none 0 0], .int .i64 0, .int .i64 0], []⟩ 8 (by kernel_rfl) (by kernel_rfl) (by kernel_rfl) (by kernel_rfl)) ?_
  intro W base args ds gs before hval0 hW hcnd hsz0 _
  have hval : ∀ (j : Nat) t v, Try.f3.params[j]? = some t → args[j]? = some v → Value.okWide Try.prog W .any base t v := hval0
  have hW' := hW
  obtain ⟨p, q, hA0, hV, rfl, hfz, hnd⟩ := hW
  have hA : DataW.TrodAll enc Try.prog W 0 (fun _ => true) true Try.f3.params.toList args.toList ds p := hA0
  rw [Try.params3] at hA hval
  obtain ⟨v0, vs0, d0, ds0, p0, q0, hargs, rfl, rfl, h0, r0⟩ := trodAll_cons hA
  obtain ⟨v1, vs1, d1, ds1, p1, q1, rfl, rfl, rfl, h1, r1⟩ := trodAll_cons r0
  obtain ⟨v2, vs2, d2, ds2, p2, q2, rfl, rfl, rfl, h2, r2⟩ := trodAll_cons r1
  obtain ⟨rfl, rfl, rfl⟩ := trodAll_nil r2
  obtain rfl : args = #[v0, v1, v2] := by cases args; simp_all
  obtain ⟨rfl, rfl⟩ := trodVars_none hV
  have k0 := h0
  have lt0 : ∀ x ∈ p0, x.block < W.heap.size := by obtain ⟨m, hm⟩ := k0; exact DataW.trod_lt m _ _ _ hm
  obtain ⟨y0, hK0, ok0⟩ := Opens.of opens29 h0
  obtain ⟨⟨cl0⟩, rfl, _⟩ := okWide_struct Try.underlying29 (hval 0 29 v0 rfl rfl)
  obtain ⟨A0_4, c0_4, A0_5, c0_5, e0, hc0_4, hr0_4, hc0_5, hr0_5⟩ := k29_open hK0
  have e0 : cl0 = _ := e0
  subst e0
  obtain ⟨y1, rfl, rfl, rfl, ok1⟩ := open_int Try.underlying3 (hval 1 3 v1 rfl rfl) h1
  obtain ⟨y2, rfl, rfl, rfl, ok2⟩ := open_int Try.underlying3 (hval 2 3 v2 rfl rfl) h2
  clear hA0 hval0 hsz0
  refine (PFnExactTreeTenant.laws_FnExactTreeTenant.walk Pure.FnExactTreeTenant y0 _ _ _ _ y1 y2 W hc0_4 hr0_4 hc0_5 hr0_5 ok0 ok1 ok2).mono fun e W' ⟨he, bel⟩ => ?_
  subst he
  exact ⟨_, rfl, _, _, _, [], _, [], hW', trodAll_mk1 (shut_bool Try.underlying4 _), (trodAll_cons_mk (Below.trod laidOut (by kernel_rfl) (of_decide_eq_true (by kernel_rfl)) k0 bel lt0) (trodAll_cons_mk (shut_int Try.underlying3 ok1) (trodAll_cons_mk (shut_int Try.underlying3 ok2) trodAll_mk0))), rfl, bel.frame _, fun h => by cases h⟩
theorem j0 : (Rows.fnExactTreeTenantRow.wf (OpenSpec.ofChange Rows.fnExactTreeTenantSpec)) = true := by kernel_rfl
theorem j1 : (laidOutB (Try.pinned.checked.prog)) = true := by kernel_rfl
theorem j2 : (mapsRowed (Try.pinned.checked.prog)) = true := by kernel_rfl
theorem j3 : (Try.f3.params.all ((Try.pinned.checked.prog).readableRec ·)) = true := by kernel_rfl
theorem j4 : (namedTie (Try.pinned.checked.prog) Rows.fnExactTreeTenantRow.named Rows.fnExactTreeTenantSpec.vars) = true := by kernel_rfl
theorem j5 : ((Rows.fnExactTreeTenantRow.stops == [])) = true := by kernel_rfl
theorem j6 : (((Try.pinned.checked.prog).stops == [])) = true := by kernel_rfl
theorem j7 : ((Rows.fnExactTreeTenantRow.knobs == [])) = true := by kernel_rfl
theorem j8 : (((Try.pinned.checked.prog).stopKnobs == [])) = true := by kernel_rfl
theorem j9 : ((Rows.fnExactTreeTenantRow.inPlace == (Try.pinned.checked.prog).inPlace 3)) = true := by kernel_rfl
theorem j10 : ((Rows.fnExactTreeTenantRow.unfollowed == (Try.pinned.checked.prog).unfollowed 3)) = true := by kernel_rfl
theorem j11 : ((Rows.fnExactTreeTenantRow.recurses == (Try.pinned.checked.prog).recurses 3)) = true := by kernel_rfl
theorem j12 : ((Rows.fnExactTreeTenantRow.named == (Try.pinned.checked.prog).varsNamed 3)) = true := by kernel_rfl
theorem j13 : ((Rows.fnExactTreeTenantRow.maps == (Try.f3.params.toList ++ Rows.fnExactTreeTenantSpec.plain.varTypes Try.pinned.checked.prog).any ((Try.pinned.checked.prog).mapsRec ·))) = true := by kernel_rfl
theorem j14 : ((Rows.fnExactTreeTenantRow.ifaces == (Try.f3.params.toList ++ Rows.fnExactTreeTenantSpec.plain.varTypes Try.pinned.checked.prog).any ((Try.pinned.checked.prog).ifacesRec ·))) = true := by kernel_rfl
theorem j15 : ((Rows.fnExactTreeTenantRow.mapsOut == (Try.pinned.checked.prog).mapsAmong Try.f3.resultTypes.toList)) = true := by kernel_rfl
theorem j16 : ((Rows.fnExactTreeTenantRow.loops == (Try.f3.params.toList ++ Rows.fnExactTreeTenantSpec.plain.varTypes Try.pinned.checked.prog).any ((Try.pinned.checked.prog).loopsFrom ·))) = true := by kernel_rfl
theorem j17 : ((Rows.fnExactTreeTenantRow.wideKeys == (Try.f3.params.toList ++ Rows.fnExactTreeTenantSpec.plain.varTypes Try.pinned.checked.prog ++ Try.f3.resultTypes.toList).any ((Try.pinned.checked.prog).wideKeysFrom ·))) = true := by kernel_rfl
theorem j18 : (Rows.fnExactTreeTenantSpec.vars.all ((Try.pinned.checked.prog).varReadable ·)) = true := by kernel_rfl
theorem j19 : (Try.f3.resultTypes.all (fun t => (Try.pinned.checked.prog).readableRec t && decide (t < (Try.pinned.checked.prog).types.size))) = true := by kernel_rfl
theorem j20 : ((Rows.fnExactTreeTenantRow.ifacesOut == Try.f3.resultTypes.toList.any ((Try.pinned.checked.prog).ifacesRec ·))) = true := by kernel_rfl
theorem j21 : ((Rows.fnExactTreeTenantRow.loopsOut == Try.f3.resultTypes.toList.any ((Try.pinned.checked.prog).loopsFrom ·))) = true := by kernel_rfl
theorem j22 : ((Rows.fnExactTreeTenantRow.plainKeys == (Try.pinned.checked.prog).plainKeys)) = true := by kernel_rfl
theorem j23 : (Rows.fnExactTreeTenantRow.shortTexts.isNone) = true := by kernel_rfl
theorem j24 : ((Try.pinned.checked.prog).stopsHeard) = true := by kernel_rfl
theorem j25 : ((Try.pinned.checked.prog).mayEnter) = true := by kernel_rfl
theorem j26 : ((Rows.fnExactTreeTenantRow.lifted == (Try.pinned.checked.prog).liftsFinal)) = true := by kernel_rfl
theorem j27 : (((Try.pinned.checked.prog).make == some Rows.fnExactTreeTenantRow.make)) = true := by kernel_rfl
theorem j28 : ((Rows.fnExactTreeTenantRow.kinds == (if Rows.fnExactTreeTenantRow.domain.isEmpty then [] else Try.f3.params.toList.map fun t => match (Try.pinned.checked.prog).underlying t with | some (.int k) => some k | _ => none))) = true := by kernel_rfl
theorem j29 : ((Rows.fnExactTreeTenantRow.pinned == Rows.fnExactTreeTenantRow.pinnedBy)) = true := by kernel_rfl
theorem j30 : ((Rows.fnExactTreeTenantRow.veiled == (Try.f3.params.toList ++ Rows.fnExactTreeTenantSpec.plain.varTypes Try.pinned.checked.prog ++ Try.f3.resultTypes.toList).any ((Try.pinned.checked.prog).veiledRec ·))) = true := by kernel_rfl
theorem j31 : (Rows.fnExactTreeTenantRow.veiledFits (Try.pinned.checked.prog) Try.f3.params.toList (Try.f3.params.toList ++ Rows.fnExactTreeTenantSpec.plain.varTypes Try.pinned.checked.prog ++ Try.f3.resultTypes.toList)) = true := by kernel_rfl
theorem and_true_ {a b : Bool} (h : a = true) (k : b = true) : (a && b) = true := by rw [h, k]; rfl
set_option maxRecDepth 100000 in
theorem closed : joinedFacts (Try.pinned.checked.prog) 3 Try.f3 Rows.fnExactTreeTenantSpec Rows.fnExactTreeTenantRow = true := by
  unfold joinedFacts
  exact (and_true_ (and_true_ (and_true_ (and_true_ (and_true_ (and_true_ (and_true_ (and_true_ (and_true_ (and_true_ (and_true_ (and_true_ (and_true_ (and_true_ (and_true_ (and_true_ (and_true_ (and_true_ (and_true_ (and_true_ (and_true_ (and_true_ (and_true_ (and_true_ (and_true_ (and_true_ (and_true_ (and_true_ (and_true_ (and_true_ (and_true_ j0 j1) j2) j3) j4) j5) j6) j7) j8) j9) j10) j11) j12) j13) j14) j15) j16) j17) j18) j19) j20) j21) j22) j23) j24) j25) j26) j27) j28) j29) j30) j31)
theorem named_ : (Try.pinned.checked.prog).funcNamed Rows.fnExactTreeTenantRow.func = some 3 := by kernel_rfl
theorem over : Rows.fnExactTreeTenantRow.holds Try.pinned (OpenSpec.ofChange Rows.fnExactTreeTenantSpec) :=
  OpenClaim.holds_of_wide 3 Try.f3 rfl rfl rfl rfl rfl rfl rfl ⟨rfl, rfl, rfl, rfl, rfl⟩ rfl rfl rfl rfl rfl named_ Try.func3 closed
    (of_decide_eq_true (by kernel_rfl)) (by unfold Func.isWrapper; first | (rw [if_pos (by decide +kernel)]; kernel_rfl) | (rw [if_neg (by decide +kernel)]; exact ⟨rfl, rfl⟩))
    (fun os started H enc _ => lifted os started H enc)
theorem proved : Rows.FnExactTreeTenantSaid := over
#print axioms proved
end Go.Proofs.Ytjfknflhajeglab.fnExactTreeTenant
namespace Go.Proofs.Ytjfknflhajeglab
/-- The row, under a short name, for the claim. -/
theorem fnExactTreeTenant_holds : Rows.FnExactTreeTenantSaid := fnExactTreeTenant.proved
end Go.Proofs.Ytjfknflhajeglab
