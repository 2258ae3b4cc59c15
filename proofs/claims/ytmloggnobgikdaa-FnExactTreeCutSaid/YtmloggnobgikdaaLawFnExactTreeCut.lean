-- by a program of this session's, over the kit's words
import Derived.Test.YtmloggnobgikdaaRows
import Derived.Test.YtmloggnobgikdaaPFnExactTreeCutx16
import Derived.Test.YtmloggnobgikdaaPureFnExactTreeCut
import Derived.Test.YtmloggnobgikdaaVOpen
import Derived.WalkKit
import Derived.ProofKit
import Derived.OpenShut
import Derived.ShutString
import Derived.ChangeOld
import Derived.Below
import Derived.SizedLaws
import Derived.WideShapes
namespace Go.Proofs.Ytmloggnobgikdaa.fnExactTreeCut
open Go.ChangeShapes Go.WideShapes Go.ChangeAt Go.RowKit Go.Proofs.YtmloggnobgikdaaV Go.Proofs.YtmloggnobgikdaaW.PrintWords Go.Proofs.Ytmloggnobgikdaa.PFnExactTreeCut
open Go.ChangeMaps (open_string shut_string)
set_option linter.unusedVariables false
theorem own : ownKnob Try.prog.godebug = none := by kernel_rfl
theorem laidOut : laidOutB Try.prog = true := by kernel_rfl
set_option maxHeartbeats 4000000 in
set_option maxRecDepth 100000 in
theorem lifted (os : Os) (started : os.Started) (H : Type) (enc : TypeId × Value → H) :
    ReturnsInHanded {} Try.checked os 3 .any (Rows.fnExactTreeCutSpec.pre6 enc Try.prog Try.f3 Rows.fnExactTreeCutRow.domain false) (Rows.fnExactTreeCutSpec.post enc Try.prog Try.f3 false true false false) := by
  refine returnsInHanded_of_change_sized (C := Try.checked) own started (by kernel_rfl) Try.func3
    (ChangeSpec.witness6 (enc := enc) (C := Try.checked) false ⟨#[], #[.agg #[.int .i64 0, .int .i64 0, .int .i64 0, .int .i64 0, .slice none 0 0, .slice none 0 0], .int .i64 0], []⟩ 8 (by kernel_rfl) (by kernel_rfl) (by kernel_rfl) (by kernel_rfl)) ?_
  intro W base args ds gs before hval0 hW hcnd hsz0 _
  have hval : ∀ (j : Nat) t v, Try.f3.params[j]? = some t → args[j]? = some v → Value.okWide Try.prog W .any base t v := hval0
  have hW' := hW
  obtain ⟨p, q, hA0, hV, rfl, hfz, hnd⟩ := hW
  have hA : DataW.TrodAll enc Try.prog W 0 (fun _ => true) true Try.f3.params.toList args.toList ds p := hA0
  rw [Try.params3] at hA hval
  obtain ⟨v0, vs0, d0, ds0, p0, q0, hargs, rfl, rfl, h0, r0⟩ := trodAll_cons hA
  obtain ⟨v1, vs1, d1, ds1, p1, q1, rfl, rfl, rfl, h1, r1⟩ := trodAll_cons r0
  obtain ⟨rfl, rfl, rfl⟩ := trodAll_nil r1
  obtain rfl : args = #[v0, v1] := by cases args; simp_all
  obtain ⟨rfl, rfl⟩ := trodVars_none hV
  have k0 := h0
  have lt0 : ∀ x ∈ p0, x.block < W.heap.size := by obtain ⟨m, hm⟩ := k0; exact DataW.trod_lt m _ _ _ hm
  obtain ⟨y0, hK0, ok0⟩ := Opens.of opens29 h0
  obtain ⟨⟨cl0⟩, rfl, _⟩ := okWide_struct Try.underlying29 (hval 0 29 v0 rfl rfl)
  obtain ⟨A0_4, c0_4, A0_5, c0_5, e0, hc0_4, hr0_4, hc0_5, hr0_5⟩ := k29_open hK0
  have e0 : cl0 = _ := e0
  subst e0
  obtain ⟨y1, rfl, rfl, rfl, ok1⟩ := open_int Try.underlying3 (hval 1 3 v1 rfl rfl) h1
  clear hA0 hval0 hsz0
  refine (PFnExactTreeCut.laws_FnExactTreeCut.walk Pure.FnExactTreeCut y0 _ _ _ _ y1 W hc0_4 hr0_4 hc0_5 hr0_5 ok0 ok1).mono fun e W' ⟨he, bel⟩ => ?_
  subst he
  exact ⟨_, rfl, _, _, _, [], _, [], hW', trodAll_mk1 (shut_bool Try.underlying4 _), (trodAll_cons_mk (Below.trod laidOut (by kernel_rfl) (of_decide_eq_true (by kernel_rfl)) k0 bel lt0) (trodAll_cons_mk (shut_int Try.underlying3 ok1) trodAll_mk0)), rfl, bel.frame _, fun h => by cases h⟩
theorem j0 : (Rows.fnExactTreeCutRow.wf (OpenSpec.ofChange Rows.fnExactTreeCutSpec)) = true := by kernel_rfl
theorem j1 : (laidOutB (Try.pinned.checked.prog)) = true := by kernel_rfl
theorem j2 : (mapsRowed (Try.pinned.checked.prog)) = true := by kernel_rfl
theorem j3 : (Try.f3.params.all ((Try.pinned.checked.prog).readableRec ·)) = true := by kernel_rfl
theorem j4 : (namedTie (Try.pinned.checked.prog) Rows.fnExactTreeCutRow.named Rows.fnExactTreeCutSpec.vars) = true := by kernel_rfl
theorem j5 : ((Rows.fnExactTreeCutRow.stops == [])) = true := by kernel_rfl
theorem j6 : (((Try.pinned.checked.prog).stops == [])) = true := by kernel_rfl
theorem j7 : ((Rows.fnExactTreeCutRow.knobs == [])) = true := by kernel_rfl
theorem j8 : (((Try.pinned.checked.prog).stopKnobs == [])) = true := by kernel_rfl
theorem j9 : ((Rows.fnExactTreeCutRow.inPlace == (Try.pinned.checked.prog).inPlace 3)) = true := by kernel_rfl
theorem j10 : ((Rows.fnExactTreeCutRow.unfollowed == (Try.pinned.checked.prog).unfollowed 3)) = true := by kernel_rfl
theorem j11 : ((Rows.fnExactTreeCutRow.recurses == (Try.pinned.checked.prog).recurses 3)) = true := by kernel_rfl
theorem j12 : ((Rows.fnExactTreeCutRow.named == (Try.pinned.checked.prog).varsNamed 3)) = true := by kernel_rfl
theorem j13 : ((Rows.fnExactTreeCutRow.maps == (Try.f3.params.toList ++ Rows.fnExactTreeCutSpec.plain.varTypes Try.pinned.checked.prog).any ((Try.pinned.checked.prog).mapsRec ·))) = true := by kernel_rfl
theorem j14 : ((Rows.fnExactTreeCutRow.ifaces == (Try.f3.params.toList ++ Rows.fnExactTreeCutSpec.plain.varTypes Try.pinned.checked.prog).any ((Try.pinned.checked.prog).ifacesRec ·))) = true := by kernel_rfl
theorem j15 : ((Rows.fnExactTreeCutRow.mapsOut == (Try.pinned.checked.prog).mapsAmong Try.f3.resultTypes.toList)) = true := by kernel_rfl
theorem j16 : ((Rows.fnExactTreeCutRow.loops == (Try.f3.params.toList ++ Rows.fnExactTreeCutSpec.plain.varTypes Try.pinned.checked.prog).any ((Try.pinned.checked.prog).loopsFrom ·))) = true := by kernel_rfl
theorem j17 : ((Rows.fnExactTreeCutRow.wideKeys == (Try.f3.params.toList ++ Rows.fnExactTreeCutSpec.plain.varTypes Try.pinned.checked.prog ++ Try.f3.resultTypes.toList).any ((Try.pinned.checked.prog).wideKeysFrom ·))) = true := by kernel_rfl
theorem j18 : (Rows.fnExactTreeCutSpec.vars.all ((Try.pinned.checked.prog).varReadable ·)) = true := by kernel_rfl
theorem j19 : (Try.f3.resultTypes.all (fun t => (Try.pinned.checked.prog).readableRec t && decide (t < (Try.pinned.checked.prog).types.size))) = true := by kernel_rfl
theorem j20 : ((Rows.fnExactTreeCutRow.ifacesOut == Try.f3.resultTypes.toList.any ((Try.pinned.checked.prog).ifacesRec ·))) = true := by kernel_rfl
theorem j21 : ((Rows.fnExactTreeCutRow.loopsOut == Try.f3.resultTypes.toList.any ((Try.pinned.checked.prog).loopsFrom ·))) = true := by kernel_rfl
theorem j22 : ((Rows.fnExactTreeCutRow.plainKeys == (Try.pinned.checked.prog).plainKeys)) = true := by kernel_rfl
theorem j23 : (Rows.fnExactTreeCutRow.shortTexts.isNone) = true := by kernel_rfl
theorem j24 : ((Try.pinned.checked.prog).stopsHeard) = true := by kernel_rfl
theorem j25 : ((Try.pinned.checked.prog).mayEnter) = true := by kernel_rfl
theorem j26 : ((Rows.fnExactTreeCutRow.lifted == (Try.pinned.checked.prog).liftsFinal)) = true := by kernel_rfl
theorem j27 : (((Try.pinned.checked.prog).make == some Rows.fnExactTreeCutRow.make)) = true := by kernel_rfl
theorem j28 : ((Rows.fnExactTreeCutRow.kinds == (if Rows.fnExactTreeCutRow.domain.isEmpty then [] else Try.f3.params.toList.map fun t => match (Try.pinned.checked.prog).underlying t with | some (.int k) => some k | _ => none))) = true := by kernel_rfl
theorem j29 : ((Rows.fnExactTreeCutRow.pinned == Rows.fnExactTreeCutRow.pinnedBy)) = true := by kernel_rfl
theorem j30 : ((Rows.fnExactTreeCutRow.veiled == (Try.f3.params.toList ++ Rows.fnExactTreeCutSpec.plain.varTypes Try.pinned.checked.prog ++ Try.f3.resultTypes.toList).any ((Try.pinned.checked.prog).veiledRec ·))) = true := by kernel_rfl
theorem j31 : (Rows.fnExactTreeCutRow.veiledFits (Try.pinned.checked.prog) Try.f3.params.toList (Try.f3.params.toList ++ Rows.fnExactTreeCutSpec.plain.varTypes Try.pinned.checked.prog ++ Try.f3.resultTypes.toList)) = true := by kernel_rfl
theorem and_true_ {a b : Bool} (h : a = true) (k : b = true) : (a && b) = true := by rw [h, k]; rfl
set_option maxRecDepth 100000 in
theorem closed : joinedFacts (Try.pinned.checked.prog) 3 Try.f3 Rows.fnExactTreeCutSpec Rows.fnExactTreeCutRow = true := by
  unfold joinedFacts
  exact (and_true_ (and_true_ (and_true_ (and_true_ (and_true_ (and_true_ (and_true_ (and_true_ (and_true_ (and_true_ (and_true_ (and_true_ (and_true_ (and_true_ (and_true_ (and_true_ (and_true_ (and_true_ (and_true_ (and_true_ (and_true_ (and_true_ (and_true_ (and_true_ (and_true_ (and_true_ (and_true_ (and_true_ (and_true_ (and_true_ (and_true_ j0 j1) j2) j3) j4) j5) j6) j7) j8) j9) j10) j11) j12) j13) j14) j15) j16) j17) j18) j19) j20) j21) j22) j23) j24) j25) j26) j27) j28) j29) j30) j31)
theorem named_ : (Try.pinned.checked.prog).funcNamed Rows.fnExactTreeCutRow.func = some 3 := by kernel_rfl
theorem over : Rows.fnExactTreeCutRow.holds Try.pinned (OpenSpec.ofChange Rows.fnExactTreeCutSpec) :=
  OpenClaim.holds_of_wide 3 Try.f3 rfl rfl rfl rfl rfl rfl rfl ⟨rfl, rfl, rfl, rfl, rfl⟩ rfl rfl rfl rfl rfl named_ Try.func3 closed
    (of_decide_eq_true (by kernel_rfl)) (by unfold Func.isWrapper; first | (rw [if_pos (by decide +kernel)]; kernel_rfl) | (rw [if_neg (by decide +kernel)]; exact ⟨rfl, rfl⟩))
    (fun os started H enc _ => lifted os started H enc)
theorem proved : Rows.FnExactTreeCutSaid := over
#print axioms proved
end Go.Proofs.Ytmloggnobgikdaa.fnExactTreeCut
namespace Go.Proofs.Ytmloggnobgikdaa
/-- The row, under a short name, for the claim. -/
theorem fnExactTreeCut_holds : Rows.FnExactTreeCutSaid := fnExactTreeCut.proved
end Go.Proofs.Ytmloggnobgikdaa
