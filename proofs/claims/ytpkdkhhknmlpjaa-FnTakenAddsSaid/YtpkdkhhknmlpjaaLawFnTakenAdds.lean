-- by a program of this session's, over the kit's words
import Derived.Test.YtpkdkhhknmlpjaaRows
import Derived.Test.YtpkdkhhknmlpjaaPFnTakenAddsx21
import Derived.Test.YtpkdkhhknmlpjaaPureFnTakenAdds
import Derived.WalkKit
import Derived.ProofKit
import Derived.OpenShut
import Derived.ShutString
import Derived.ChangeOld
import Derived.Below
import Derived.SizedLaws
import Derived.Test.YtpkdkhhknmlpjaaWSized
namespace Go.Proofs.Ytpkdkhhknmlpjaa.fnTakenAdds
open Go.ChangeShapes Go.WideShapes Go.ChangeAt Go.RowKit
open Go.ChangeMaps (open_string shut_string)
set_option linter.unusedVariables false
theorem own : ownKnob Try.prog.godebug = none := by kernel_rfl
theorem laidOut : laidOutB Try.prog = true := by kernel_rfl
def IsRow (k : IntKind) (w : World) (a : Option Addr) (len cap : Nat) (zs : List Int) : Prop :=
  (a = none ∧ len = 0 ∧ cap = 0 ∧ zs = []) ∨
  ∃ x, a = some x ∧ len ≤ cap ∧ cap ≤ maxLen ∧ zs.length = cap ∧ (∀ i, i < zs.length → w.cell? (x.add i) = some (.int k (zs.getD i 0))) ∧ ∀ n ∈ zs, (Lit.int k n).wf = true
set_option maxRecDepth 100000 in
theorem lifted (os : Os) (started : os.Started) (H : Type) (enc : TypeId × Value → H) :
    ReturnsInHanded {} Try.checked os 3 .any (Rows.fnTakenAddsSpec.pre6 enc Try.prog Try.f3 Rows.fnTakenAddsRow.domain false) (Rows.fnTakenAddsSpec.post enc Try.prog Try.f3 false true false false) := by
  refine returnsInHanded_of_change_sized (C := Try.checked) own started (by kernel_rfl) Try.func3
    (ChangeSpec.witness6 (enc := enc) (C := Try.checked) false ⟨#[], #[.slice none 0 0], []⟩ 8 (by kernel_rfl) (by kernel_rfl) (by kernel_rfl) (by kernel_rfl)) ?_
  intro W base args ds gs before hval0 hW hcnd hsz0 _
  have hsz : (DataW.weightsEach Try.prog (Try.f3.params.toList ++ Rows.fnTakenAddsSpec.plain.varTypes Try.prog) (ds ++ gs)).all (· ≤ reachBytes) = true := hsz0
  have hval : ∀ (j : Nat) t v, Try.f3.params[j]? = some t → args[j]? = some v → Value.okWide Try.prog W .any base t v := hval0
  have hW' := hW
  obtain ⟨p, q, hA0, hV, rfl, hfz, hnd⟩ := hW
  have hA : DataW.TrodAll enc Try.prog W 0 (fun _ => true) true Try.f3.params.toList args.toList ds p := hA0
  rw [Try.params3] at hA hval hsz
  obtain ⟨v0, vs0, d0, ds0, p0, q0, hargs, rfl, rfl, h0, r0⟩ := trodAll_cons hA
  obtain ⟨rfl, rfl, rfl⟩ := trodAll_nil r0
  obtain rfl : args = #[v0] := by cases args; simp_all
  obtain ⟨rfl, rfl⟩ := trodVars_none hV
  obtain ⟨a0, len0, cap0, rfl⟩ := okWide_slice Try.underlying22 (hval 0 22 v0 rfl rfl)
  have k0 := h0
  have lt0 : ∀ x ∈ p0, x.block < W.heap.size := by obtain ⟨m, hm⟩ := k0; exact DataW.trod_lt m _ _ _ hm
  obtain ⟨z0, w0⟩ : ∃ zs, IsRow .u8 W a0 len0 cap0 zs := by
    obtain ⟨fuel, hf⟩ := h0
    rcases open_ints Try.underlying22 Try.underlying5 (by kernel_rfl) hf with ⟨hcs, _⟩ | ⟨x, l, c, zs, hcs, _, hl, hm, hz, _, hcell, hwz⟩
    · simp [Value.cells] at hcs
      obtain ⟨rfl, rfl, rfl⟩ := hcs
      exact ⟨[], .inl ⟨rfl, rfl, rfl, rfl⟩⟩
    · simp [Value.cells] at hcs
      obtain ⟨rfl, rfl, rfl⟩ := hcs
      exact ⟨zs, .inr ⟨_, rfl, hl, hm, by simpa using hz, hcell, hwz⟩⟩
  have y0 : len0 * 1 ≤ 140737488351232 := Go.Proofs.YtpkdkhhknmlpjaaW.PrintWords.sized_ints hsz (j := 0) (t := 22) rfl rfl Try.underlying22 Try.underlying5 (by kernel_rfl) (by kernel_rfl) h0
  clear hA0 hval0 hsz0 hsz
  refine (PFnTakenAdds.laws_FnTakenAdds.walk Pure.FnTakenAdds a0 len0 cap0 z0 W w0 y0).mono fun e W' ⟨he, bel⟩ => ?_
  subst he
  exact ⟨_, rfl, _, _, _, [], _, [], hW', trodAll_mk1 (shut_bool Try.underlying4 _), (trodAll_cons_mk (Below.trod laidOut (by kernel_rfl) (of_decide_eq_true (by kernel_rfl)) k0 bel lt0) trodAll_mk0), rfl, bel.frame _, fun h => by cases h⟩
theorem j0 : (Rows.fnTakenAddsRow.wf (OpenSpec.ofChange Rows.fnTakenAddsSpec)) = true := by kernel_rfl
theorem j1 : (laidOutB (Try.pinned.checked.prog)) = true := by kernel_rfl
theorem j2 : (mapsRowed (Try.pinned.checked.prog)) = true := by kernel_rfl
theorem j3 : (Try.f3.params.all ((Try.pinned.checked.prog).readableRec ·)) = true := by kernel_rfl
theorem j4 : (namedTie (Try.pinned.checked.prog) Rows.fnTakenAddsRow.named Rows.fnTakenAddsSpec.vars) = true := by kernel_rfl
theorem j5 : ((Rows.fnTakenAddsRow.stops == [])) = true := by kernel_rfl
theorem j6 : (((Try.pinned.checked.prog).stops == [])) = true := by kernel_rfl
theorem j7 : ((Rows.fnTakenAddsRow.knobs == [])) = true := by kernel_rfl
theorem j8 : (((Try.pinned.checked.prog).stopKnobs == [])) = true := by kernel_rfl
theorem j9 : ((Rows.fnTakenAddsRow.inPlace == (Try.pinned.checked.prog).inPlace 3)) = true := by kernel_rfl
theorem j10 : ((Rows.fnTakenAddsRow.unfollowed == (Try.pinned.checked.prog).unfollowed 3)) = true := by kernel_rfl
theorem j11 : ((Rows.fnTakenAddsRow.recurses == (Try.pinned.checked.prog).recurses 3)) = true := by kernel_rfl
theorem j12 : ((Rows.fnTakenAddsRow.named == (Try.pinned.checked.prog).varsNamed 3)) = true := by kernel_rfl
theorem j13 : ((Rows.fnTakenAddsRow.maps == (Try.f3.params.toList ++ Rows.fnTakenAddsSpec.plain.varTypes Try.pinned.checked.prog).any ((Try.pinned.checked.prog).mapsRec ·))) = true := by kernel_rfl
theorem j14 : ((Rows.fnTakenAddsRow.ifaces == (Try.f3.params.toList ++ Rows.fnTakenAddsSpec.plain.varTypes Try.pinned.checked.prog).any ((Try.pinned.checked.prog).ifacesRec ·))) = true := by kernel_rfl
theorem j15 : ((Rows.fnTakenAddsRow.mapsOut == (Try.pinned.checked.prog).mapsAmong Try.f3.resultTypes.toList)) = true := by kernel_rfl
theorem j16 : ((Rows.fnTakenAddsRow.loops == (Try.f3.params.toList ++ Rows.fnTakenAddsSpec.plain.varTypes Try.pinned.checked.prog).any ((Try.pinned.checked.prog).loopsFrom ·))) = true := by kernel_rfl
theorem j17 : ((Rows.fnTakenAddsRow.wideKeys == (Try.f3.params.toList ++ Rows.fnTakenAddsSpec.plain.varTypes Try.pinned.checked.prog ++ Try.f3.resultTypes.toList).any ((Try.pinned.checked.prog).wideKeysFrom ·))) = true := by kernel_rfl
theorem j18 : (Rows.fnTakenAddsSpec.vars.all ((Try.pinned.checked.prog).varReadable ·)) = true := by kernel_rfl
theorem j19 : (Try.f3.resultTypes.all (fun t => (Try.pinned.checked.prog).readableRec t && decide (t < (Try.pinned.checked.prog).types.size))) = true := by kernel_rfl
theorem j20 : ((Rows.fnTakenAddsRow.ifacesOut == Try.f3.resultTypes.toList.any ((Try.pinned.checked.prog).ifacesRec ·))) = true := by kernel_rfl
theorem j21 : ((Rows.fnTakenAddsRow.loopsOut == Try.f3.resultTypes.toList.any ((Try.pinned.checked.prog).loopsFrom ·))) = true := by kernel_rfl
theorem j22 : ((Rows.fnTakenAddsRow.plainKeys == (Try.pinned.checked.prog).plainKeys)) = true := by kernel_rfl
theorem j23 : (Rows.fnTakenAddsRow.shortTexts.isNone) = true := by kernel_rfl
theorem j24 : ((Try.pinned.checked.prog).stopsHeard) = true := by kernel_rfl
theorem j25 : ((Try.pinned.checked.prog).mayEnter) = true := by kernel_rfl
theorem j26 : ((Rows.fnTakenAddsRow.lifted == (Try.pinned.checked.prog).liftsFinal)) = true := by kernel_rfl
theorem j27 : (((Try.pinned.checked.prog).make == some Rows.fnTakenAddsRow.make)) = true := by kernel_rfl
theorem j28 : ((Rows.fnTakenAddsRow.kinds == (if Rows.fnTakenAddsRow.domain.isEmpty then [] else Try.f3.params.toList.map fun t => match (Try.pinned.checked.prog).underlying t with | some (.int k) => some k | _ => none))) = true := by kernel_rfl
theorem j29 : ((Rows.fnTakenAddsRow.pinned == Rows.fnTakenAddsRow.pinnedBy)) = true := by kernel_rfl
theorem j30 : ((Rows.fnTakenAddsRow.veiled == (Try.f3.params.toList ++ Rows.fnTakenAddsSpec.plain.varTypes Try.pinned.checked.prog ++ Try.f3.resultTypes.toList).any ((Try.pinned.checked.prog).veiledRec ·))) = true := by kernel_rfl
theorem j31 : (Rows.fnTakenAddsRow.veiledFits (Try.pinned.checked.prog) Try.f3.params.toList (Try.f3.params.toList ++ Rows.fnTakenAddsSpec.plain.varTypes Try.pinned.checked.prog ++ Try.f3.resultTypes.toList)) = true := by kernel_rfl
theorem and_true_ {a b : Bool} (h : a = true) (k : b = true) : (a && b) = true := by rw [h, k]; rfl
set_option maxRecDepth 100000 in
theorem closed : joinedFacts (Try.pinned.checked.prog) 3 Try.f3 Rows.fnTakenAddsSpec Rows.fnTakenAddsRow = true := by
  unfold joinedFacts
  exact (and_true_ (and_true_ (and_true_ (and_true_ (and_true_ (and_true_ (and_true_ (and_true_ (and_true_ (and_true_ (and_true_ (and_true_ (and_true_ (and_true_ (and_true_ (and_true_ (and_true_ (and_true_ (and_true_ (and_true_ (and_true_ (and_true_ (and_true_ (and_true_ (and_true_ (and_true_ (and_true_ (and_true_ (and_true_ (and_true_ (and_true_ j0 j1) j2) j3) j4) j5) j6) j7) j8) j9) j10) j11) j12) j13) j14) j15) j16) j17) j18) j19) j20) j21) j22) j23) j24) j25) j26) j27) j28) j29) j30) j31)
theorem named_ : (Try.pinned.checked.prog).funcNamed Rows.fnTakenAddsRow.func = some 3 := by kernel_rfl
theorem over : Rows.fnTakenAddsRow.holds Try.pinned (OpenSpec.ofChange Rows.fnTakenAddsSpec) :=
  OpenClaim.holds_of_wide 3 Try.f3 rfl rfl rfl rfl rfl rfl rfl ⟨rfl, rfl, rfl, rfl, rfl⟩ rfl rfl rfl rfl rfl named_ Try.func3 closed
    (of_decide_eq_true (by kernel_rfl)) (by unfold Func.isWrapper; first | (rw [if_pos (by decide +kernel)]; kernel_rfl) | (rw [if_neg (by decide +kernel)]; exact ⟨rfl, rfl⟩))
    (fun os started H enc _ => lifted os started H enc)
theorem proved : Rows.FnTakenAddsSaid := over
#print axioms proved
end Go.Proofs.Ytpkdkhhknmlpjaa.fnTakenAdds
namespace Go.Proofs.Ytpkdkhhknmlpjaa
/-- The row, under a short name, for the claim. -/
theorem fnTakenAdds_holds : Rows.FnTakenAddsSaid := fnTakenAdds.proved
end Go.Proofs.Ytpkdkhhknmlpjaa
