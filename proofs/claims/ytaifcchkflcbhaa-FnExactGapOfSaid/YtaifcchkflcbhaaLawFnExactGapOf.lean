-- by a program of this session's, over the kit's words
import Derived.Test.YtaifcchkflcbhaaRows
import Derived.Test.YtaifcchkflcbhaaPFnExactGapOfx9
import Derived.Test.YtaifcchkflcbhaaPureFnExactGapOf
import Derived.Test.YtaifcchkflcbhaaVOpen
import Derived.WalkKit
import Derived.ProofKit
import Derived.OpenShut
import Derived.ShutString
import Derived.ChangeOld
import Derived.Below
import Derived.SizedLaws
import Derived.WideShapes
namespace Go.Proofs.Ytaifcchkflcbhaa.fnExactGapOf
open Go.ChangeShapes Go.WideShapes Go.ChangeAt Go.RowKit Go.Proofs.YtaifcchkflcbhaaV Go.Proofs.YtaifcchkflcbhaaW.PrintWords Go.Proofs.Ytaifcchkflcbhaa.PFnExactGapOf
open Go.ChangeMaps (open_string shut_string)
set_option linter.unusedVariables false
theorem own : ownKnob Try.prog.godebug = none := by kernel_rfl
theorem laidOut : laidOutB Try.prog = true := by kernel_rfl
set_option maxHeartbeats 4000000 in
set_option maxRecDepth 100000 in
theorem lifted (os : Os) (started : os.Started) (H : Type) (enc : TypeId × Value → H) :
    ReturnsInHanded {} Try.checked os 5 .any (Rows.fnExactGapOfSpec.pre6 enc Try.prog Try.f5 Rows.fnExactGapOfRow.domain false) (Rows.fnExactGapOfSpec.post enc Try.prog Try.f5 false true false false) := by
  refine returnsInHanded_of_change_sized (C := Try.checked) own started (by kernel_rfl) Try.func5
    (ChangeSpec.witness6 (enc := enc) (C := Try.checked) false ⟨#[], #[.slice none 0 0, .int .i64 0, .int .i64 0, .int .i64 0, .int .i64 0], []⟩ 8 (by kernel_rfl) (by kernel_rfl) (by kernel_rfl) (by kernel_rfl)) ?_
  intro W base args ds gs before hval0 hW hcnd hsz0 _
  have hval : ∀ (j : Nat) t v, Try.f5.params[j]? = some t → args[j]? = some v → Value.okWide Try.prog W .any base t v := hval0
  have hW' := hW
  obtain ⟨p, q, hA0, hV, rfl, hfz, hnd⟩ := hW
  have hA : DataW.TrodAll enc Try.prog W 0 (fun _ => true) true Try.f5.params.toList args.toList ds p := hA0
  rw [Try.params5] at hA hval
  obtain ⟨v0, vs0, d0, ds0, p0, q0, hargs, rfl, rfl, h0, r0⟩ := trodAll_cons hA
  obtain ⟨v1, vs1, d1, ds1, p1, q1, rfl, rfl, rfl, h1, r1⟩ := trodAll_cons r0
  obtain ⟨v2, vs2, d2, ds2, p2, q2, rfl, rfl, rfl, h2, r2⟩ := trodAll_cons r1
  obtain ⟨v3, vs3, d3, ds3, p3, q3, rfl, rfl, rfl, h3, r3⟩ := trodAll_cons r2
  obtain ⟨v4, vs4, d4, ds4, p4, q4, rfl, rfl, rfl, h4, r4⟩ := trodAll_cons r3
  obtain ⟨rfl, rfl, rfl⟩ := trodAll_nil r4
  obtain rfl : args = #[v0, v1, v2, v3, v4] := by cases args; simp_all
  obtain ⟨rfl, rfl⟩ := trodVars_none hV
  have k0 := h0
  have lt0 : ∀ x ∈ p0, x.block < W.heap.size := by obtain ⟨m, hm⟩ := k0; exact DataW.trod_lt m _ _ _ hm
  obtain ⟨y0, hK0, ok0⟩ := Opens.of (opens_slice Try.underlying55 (by kernel_rfl) opens172) h0
  obtain ⟨aa, len, cap, rfl⟩ := okWide_slice Try.underlying55 (hval 0 55 v0 rfl rfl)
  obtain ⟨A0_0, c0_0, e0, hc0_0, hr0_0⟩ := hK0
  simp only [Value.cells, List.cons.injEq, and_true, Value.slice.injEq] at e0
  obtain ⟨rfl, rfl, rfl⟩ := e0
  obtain ⟨y1, rfl, rfl, rfl, ok1⟩ := open_int Try.underlying3 (hval 1 3 v1 rfl rfl) h1
  obtain ⟨y2, rfl, rfl, rfl, ok2⟩ := open_int Try.underlying3 (hval 2 3 v2 rfl rfl) h2
  obtain ⟨y3, rfl, rfl, rfl, ok3⟩ := open_int Try.underlying3 (hval 3 3 v3 rfl rfl) h3
  obtain ⟨y4, rfl, rfl, rfl, ok4⟩ := open_int Try.underlying3 (hval 4 3 v4 rfl rfl) h4
  clear hA0 hval0 hsz0
  refine (PFnExactGapOf.laws_FnExactGapOf.walk Pure.FnExactGapOf y0 _ _ y1 y2 y3 y4 W hc0_0 hr0_0 ok0 ok1 ok2 ok3 ok4).mono fun e W' ⟨he, bel⟩ => ?_
  subst he
  exact ⟨_, rfl, _, _, _, [], _, [], hW', trodAll_mk1 (shut_bool Try.underlying4 _), (trodAll_cons_mk (Below.trod laidOut (by kernel_rfl) (of_decide_eq_true (by kernel_rfl)) k0 bel lt0) (trodAll_cons_mk (shut_int Try.underlying3 ok1) (trodAll_cons_mk (shut_int Try.underlying3 ok2) (trodAll_cons_mk (shut_int Try.underlying3 ok3) (trodAll_cons_mk (shut_int Try.underlying3 ok4) trodAll_mk0))))), rfl, bel.frame _, fun h => by cases h⟩
theorem j0 : (Rows.fnExactGapOfRow.wf (OpenSpec.ofChange Rows.fnExactGapOfSpec)) = true := by kernel_rfl
theorem j1 : (laidOutB (Try.pinned.checked.prog)) = true := by kernel_rfl
theorem j2 : (mapsRowed (Try.pinned.checked.prog)) = true := by kernel_rfl
theorem j3 : (Try.f5.params.all ((Try.pinned.checked.prog).readableRec ·)) = true := by kernel_rfl
theorem j4 : (namedTie (Try.pinned.checked.prog) Rows.fnExactGapOfRow.named Rows.fnExactGapOfSpec.vars) = true := by kernel_rfl
theorem j5 : ((Rows.fnExactGapOfRow.stops == [])) = true := by kernel_rfl
theorem j6 : (((Try.pinned.checked.prog).stops == [])) = true := by kernel_rfl
theorem j7 : ((Rows.fnExactGapOfRow.knobs == [])) = true := by kernel_rfl
theorem j8 : (((Try.pinned.checked.prog).stopKnobs == [])) = true := by kernel_rfl
theorem j9 : ((Rows.fnExactGapOfRow.inPlace == (Try.pinned.checked.prog).inPlace 5)) = true := by kernel_rfl
theorem j10 : ((Rows.fnExactGapOfRow.unfollowed == (Try.pinned.checked.prog).unfollowed 5)) = true := by kernel_rfl
theorem j11 : ((Rows.fnExactGapOfRow.recurses == (Try.pinned.checked.prog).recurses 5)) = true := by kernel_rfl
theorem j12 : ((Rows.fnExactGapOfRow.named == (Try.pinned.checked.prog).varsNamed 5)) = true := by kernel_rfl
theorem j13 : ((Rows.fnExactGapOfRow.maps == (Try.f5.params.toList ++ Rows.fnExactGapOfSpec.plain.varTypes Try.pinned.checked.prog).any ((Try.pinned.checked.prog).mapsRec ·))) = true := by kernel_rfl
theorem j14 : ((Rows.fnExactGapOfRow.ifaces == (Try.f5.params.toList ++ Rows.fnExactGapOfSpec.plain.varTypes Try.pinned.checked.prog).any ((Try.pinned.checked.prog).ifacesRec ·))) = true := by kernel_rfl
theorem j15 : ((Rows.fnExactGapOfRow.mapsOut == (Try.pinned.checked.prog).mapsAmong Try.f5.resultTypes.toList)) = true := by kernel_rfl
theorem j16 : ((Rows.fnExactGapOfRow.loops == (Try.f5.params.toList ++ Rows.fnExactGapOfSpec.plain.varTypes Try.pinned.checked.prog).any ((Try.pinned.checked.prog).loopsFrom ·))) = true := by kernel_rfl
theorem j17 : ((Rows.fnExactGapOfRow.wideKeys == (Try.f5.params.toList ++ Rows.fnExactGapOfSpec.plain.varTypes Try.pinned.checked.prog ++ Try.f5.resultTypes.toList).any ((Try.pinned.checked.prog).wideKeysFrom ·))) = true := by kernel_rfl
theorem j18 : (Rows.fnExactGapOfSpec.vars.all ((Try.pinned.checked.prog).varReadable ·)) = true := by kernel_rfl
theorem j19 : (Try.f5.resultTypes.all (fun t => (Try.pinned.checked.prog).readableRec t && decide (t < (Try.pinned.checked.prog).types.size))) = true := by kernel_rfl
theorem j20 : ((Rows.fnExactGapOfRow.ifacesOut == Try.f5.resultTypes.toList.any ((Try.pinned.checked.prog).ifacesRec ·))) = true := by kernel_rfl
theorem j21 : ((Rows.fnExactGapOfRow.loopsOut == Try.f5.resultTypes.toList.any ((Try.pinned.checked.prog).loopsFrom ·))) = true := by kernel_rfl
theorem j22 : ((Rows.fnExactGapOfRow.plainKeys == (Try.pinned.checked.prog).plainKeys)) = true := by kernel_rfl
theorem j23 : (Rows.fnExactGapOfRow.shortTexts.isNone) = true := by kernel_rfl
theorem j24 : ((Try.pinned.checked.prog).stopsHeard) = true := by kernel_rfl
theorem j25 : ((Try.pinned.checked.prog).mayEnter) = true := by kernel_rfl
theorem j26 : ((Rows.fnExactGapOfRow.lifted == (Try.pinned.checked.prog).liftsFinal)) = true := by kernel_rfl
theorem j27 : (((Try.pinned.checked.prog).make == some Rows.fnExactGapOfRow.make)) = true := by kernel_rfl
theorem j28 : ((Rows.fnExactGapOfRow.kinds == (if Rows.fnExactGapOfRow.domain.isEmpty then [] else Try.f5.params.toList.map fun t => match (Try.pinned.checked.prog).underlying t with | some (.int k) => some k | _ => none))) = true := by kernel_rfl
theorem j29 : ((Rows.fnExactGapOfRow.pinned == Rows.fnExactGapOfRow.pinnedBy)) = true := by kernel_rfl
theorem j30 : ((Rows.fnExactGapOfRow.veiled == (Try.f5.params.toList ++ Rows.fnExactGapOfSpec.plain.varTypes Try.pinned.checked.prog ++ Try.f5.resultTypes.toList).any ((Try.pinned.checked.prog).veiledRec ·))) = true := by kernel_rfl
theorem j31 : (Rows.fnExactGapOfRow.veiledFits (Try.pinned.checked.prog) Try.f5.params.toList (Try.f5.params.toList ++ Rows.fnExactGapOfSpec.plain.varTypes Try.pinned.checked.prog ++ Try.f5.resultTypes.toList)) = true := by kernel_rfl
theorem and_true_ {a b : Bool} (h : a = true) (k : b = true) : (a && b) = true := by rw [h, k]; rfl
set_option maxRecDepth 100000 in
theorem closed : joinedFacts (Try.pinned.checked.prog) 5 Try.f5 Rows.fnExactGapOfSpec Rows.fnExactGapOfRow = true := by
  unfold joinedFacts
  exact (and_true_ (and_true_ (and_true_ (and_true_ (and_true_ (and_true_ (and_true_ (and_true_ (and_true_ (and_true_ (and_true_ (and_true_ (and_true_ (and_true_ (and_true_ (and_true_ (and_true_ (and_true_ (and_true_ (and_true_ (and_true_ (and_true_ (and_true_ (and_true_ (and_true_ (and_true_ (and_true_ (and_true_ (and_true_ (and_true_ (and_true_ j0 j1) j2) j3) j4) j5) j6) j7) j8) j9) j10) j11) j12) j13) j14) j15) j16) j17) j18) j19) j20) j21) j22) j23) j24) j25) j26) j27) j28) j29) j30) j31)
theorem named_ : (Try.pinned.checked.prog).funcNamed Rows.fnExactGapOfRow.func = some 5 := by kernel_rfl
theorem over : Rows.fnExactGapOfRow.holds Try.pinned (OpenSpec.ofChange Rows.fnExactGapOfSpec) :=
  OpenClaim.holds_of_wide 5 Try.f5 rfl rfl rfl rfl rfl rfl rfl ⟨rfl, rfl, rfl, rfl, rfl⟩ rfl rfl rfl rfl rfl named_ Try.func5 closed
    (of_decide_eq_true (by kernel_rfl)) (by unfold Func.isWrapper; first | (rw [if_pos (by decide +kernel)]; kernel_rfl) | (rw [if_neg (by decide +kernel)]; exact ⟨rfl, rfl⟩))
    (fun os started H enc _ => lifted os started H enc)
theorem proved : Rows.FnExactGapOfSaid := over
#print axioms proved
end Go.Proofs.Ytaifcchkflcbhaa.fnExactGapOf
namespace Go.Proofs.Ytaifcchkflcbhaa
/-- The row, under a short name, for the claim. -/
theorem fnExactGapOf_holds : Rows.FnExactGapOfSaid := fnExactGapOf.proved
end Go.Proofs.Ytaifcchkflcbhaa
