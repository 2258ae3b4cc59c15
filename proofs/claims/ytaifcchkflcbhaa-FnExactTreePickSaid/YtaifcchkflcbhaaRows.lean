/-
  No cell of these rows narrows 'for every input' (looked for: loops, veiled, ifaces, maps, wideKeys, modest, calm, conditions, laid).
  DERIVED. THE GIVEN ROWS OF THIS SEAT. 12 by the template 'for every input the law returns true; each argument reads behind the call as it read before'; 0 by the template 'total and deterministic' (their statements: YtaifcchkflcbhaaTotals.lean).
  GIVEN WITH THE SEED: the statements are not yours to turn. If you find one false, say at which input.
  Laid BY PROGRAM, IN A SANDBOX (cutbox-rows.mjs): the forced cells as the released guide's own fill.sh prints them over the translation 81142ef77ad707dd… (all of the seat's roots in one cut). By AI agents, Wed Nov 11 2026. No macro, syntax, notation, axiom, sorry.
-/
import Derived.Test.YtaifcchkflcbhaaChecked
import GoSem.Claim
import GoSem.ClaimJoined
import GoSem.ClaimMapViews
import Derived.JoinedTies
import Derived.KernelRfl
namespace Go.Proofs.Ytaifcchkflcbhaa
/- THE CELL 'sum', in the pinned program and in every row, IS THE sha256 OF THE DUMP (.gsa) THAT YtaifcchkflcbhaaProg.lean LOADS. Nothing in Lean hashes anything: it is a label: what it is worth is what the hold of that sum in a sandbox is worth. -/
noncomputable def Try.pinned : Pinned := { name := "ytaifcchkflcbhaa", sum := "81142ef77ad707ddf96275c9f9cebe47fb12b8587c979cba525c41edc3ca5478", checked := Try.checked }
namespace Rows
def none {H : Type} : Left H := { results := [], args := [] }

/-- 'laws.FnPrefixHolds': WHATEVER THE INPUT: true; the input reads as it did. -/
def fnPrefixHoldsSpec : ChangeSpec := { name := "fnPrefixHolds", fn := fun _ => fun
  | [d] => { results := [.lit (.bool true)], args := [d] }
  | _ => none }
def fnPrefixHoldsRow : OpenClaim := { program := "ytaifcchkflcbhaa", sum := "81142ef77ad707ddf96275c9f9cebe47fb12b8587c979cba525c41edc3ca5478", func := "loop.example/g00655/laws.FnPrefixHolds", spec := "fnPrefixHolds", apart := false }
def FnPrefixHoldsSaid : Prop := fnPrefixHoldsRow.holds Try.pinned (OpenSpec.ofChange fnPrefixHoldsSpec)

/-- ITS FALSE NEIGHBOUR: 'it returns false'. Refute it at one input. -/
def fnPrefixHoldsWrong : ChangeSpec := { name := "fnPrefixHolds", fn := fun _ => fun
  | [d] => { results := [.lit (.bool false)], args := [d] }
  | _ => none }
def FnPrefixHoldsWrongFalsely : Prop := fnPrefixHoldsRow.holds Try.pinned (OpenSpec.ofChange fnPrefixHoldsWrong)

/-- 'laws.FnExactLinePut': WHATEVER THE INPUT: true; the input reads as it did. -/
def fnExactLinePutSpec : ChangeSpec := { name := "fnExactLinePut", fn := fun _ => fun
  | [d1, d2] => { results := [.lit (.bool true)], args := [d1, d2] }
  | _ => none }
def fnExactLinePutRow : OpenClaim := { program := "ytaifcchkflcbhaa", sum := "81142ef77ad707ddf96275c9f9cebe47fb12b8587c979cba525c41edc3ca5478", func := "loop.example/g00655/laws.FnExactLinePut", spec := "fnExactLinePut", unfollowed := true, recurses := true, apart := false }
def FnExactLinePutSaid : Prop := fnExactLinePutRow.holds Try.pinned (OpenSpec.ofChange fnExactLinePutSpec)

/-- ITS FALSE NEIGHBOUR: 'it returns false'. Refute it at one input. -/
def fnExactLinePutWrong : ChangeSpec := { name := "fnExactLinePut", fn := fun _ => fun
  | [d1, d2] => { results := [.lit (.bool false)], args := [d1, d2] }
  | _ => none }
def FnExactLinePutWrongFalsely : Prop := fnExactLinePutRow.holds Try.pinned (OpenSpec.ofChange fnExactLinePutWrong)

/-- 'laws.FnExactGapOf': WHATEVER THE INPUT: true; the input reads as it did. -/
def fnExactGapOfSpec : ChangeSpec := { name := "fnExactGapOf", fn := fun _ => fun
  | [d1, d2, d3, d4, d5] => { results := [.lit (.bool true)], args := [d1, d2, d3, d4, d5] }
  | _ => none }
def fnExactGapOfRow : OpenClaim := { program := "ytaifcchkflcbhaa", sum := "81142ef77ad707ddf96275c9f9cebe47fb12b8587c979cba525c41edc3ca5478", func := "loop.example/g00655/laws.FnExactGapOf", spec := "fnExactGapOf", unfollowed := true, recurses := true, apart := false }
def FnExactGapOfSaid : Prop := fnExactGapOfRow.holds Try.pinned (OpenSpec.ofChange fnExactGapOfSpec)

/-- ITS FALSE NEIGHBOUR: 'it returns false'. Refute it at one input. -/
def fnExactGapOfWrong : ChangeSpec := { name := "fnExactGapOf", fn := fun _ => fun
  | [d1, d2, d3, d4, d5] => { results := [.lit (.bool false)], args := [d1, d2, d3, d4, d5] }
  | _ => none }
def FnExactGapOfWrongFalsely : Prop := fnExactGapOfRow.holds Try.pinned (OpenSpec.ofChange fnExactGapOfWrong)

/-- 'laws.FnExactTreePick': WHATEVER THE INPUT: true; the input reads as it did. -/
def fnExactTreePickSpec : ChangeSpec := { name := "fnExactTreePick", fn := fun _ => fun
  | [d] => { results := [.lit (.bool true)], args := [d] }
  | _ => none }
def fnExactTreePickRow : OpenClaim := { program := "ytaifcchkflcbhaa", sum := "81142ef77ad707ddf96275c9f9cebe47fb12b8587c979cba525c41edc3ca5478", func := "loop.example/g00655/laws.FnExactTreePick", spec := "fnExactTreePick", apart := false }
def FnExactTreePickSaid : Prop := fnExactTreePickRow.holds Try.pinned (OpenSpec.ofChange fnExactTreePickSpec)

/-- ITS FALSE NEIGHBOUR: 'it returns false'. Refute it at one input. -/
def fnExactTreePickWrong : ChangeSpec := { name := "fnExactTreePick", fn := fun _ => fun
  | [d] => { results := [.lit (.bool false)], args := [d] }
  | _ => none }
def FnExactTreePickWrongFalsely : Prop := fnExactTreePickRow.holds Try.pinned (OpenSpec.ofChange fnExactTreePickWrong)

/-- 'laws.FnExactWorstSpan': WHATEVER THE INPUT: true; the input reads as it did. -/
def fnExactWorstSpanSpec : ChangeSpec := { name := "fnExactWorstSpan", fn := fun _ => fun
  | [d1, d2, d3] => { results := [.lit (.bool true)], args := [d1, d2, d3] }
  | _ => none }
def fnExactWorstSpanRow : OpenClaim := { program := "ytaifcchkflcbhaa", sum := "81142ef77ad707ddf96275c9f9cebe47fb12b8587c979cba525c41edc3ca5478", func := "loop.example/g00655/laws.FnExactWorstSpan", spec := "fnExactWorstSpan", unfollowed := true, recurses := true, apart := false }
def FnExactWorstSpanSaid : Prop := fnExactWorstSpanRow.holds Try.pinned (OpenSpec.ofChange fnExactWorstSpanSpec)

/-- ITS FALSE NEIGHBOUR: 'it returns false'. Refute it at one input. -/
def fnExactWorstSpanWrong : ChangeSpec := { name := "fnExactWorstSpan", fn := fun _ => fun
  | [d1, d2, d3] => { results := [.lit (.bool false)], args := [d1, d2, d3] }
  | _ => none }
def FnExactWorstSpanWrongFalsely : Prop := fnExactWorstSpanRow.holds Try.pinned (OpenSpec.ofChange fnExactWorstSpanWrong)

/-- 'laws.FnTurnedKey': WHATEVER THE INPUT: true; the input reads as it did. -/
def fnTurnedKeySpec : ChangeSpec := { name := "fnTurnedKey", fn := fun _ => fun
  | [d] => { results := [.lit (.bool true)], args := [d] }
  | _ => none }
def fnTurnedKeyRow : OpenClaim := { program := "ytaifcchkflcbhaa", sum := "81142ef77ad707ddf96275c9f9cebe47fb12b8587c979cba525c41edc3ca5478", func := "loop.example/g00655/laws.FnTurnedKey", spec := "fnTurnedKey", apart := false }
def FnTurnedKeySaid : Prop := fnTurnedKeyRow.holds Try.pinned (OpenSpec.ofChange fnTurnedKeySpec)

/-- ITS FALSE NEIGHBOUR: 'it returns false'. Refute it at one input. -/
def fnTurnedKeyWrong : ChangeSpec := { name := "fnTurnedKey", fn := fun _ => fun
  | [d] => { results := [.lit (.bool false)], args := [d] }
  | _ => none }
def FnTurnedKeyWrongFalsely : Prop := fnTurnedKeyRow.holds Try.pinned (OpenSpec.ofChange fnTurnedKeyWrong)

/-- 'laws.FnCostAdds': WHATEVER THE INPUT: true; the input reads as it did. -/
def fnCostAddsSpec : ChangeSpec := { name := "fnCostAdds", fn := fun _ => fun
  | [d] => { results := [.lit (.bool true)], args := [d] }
  | _ => none }
def fnCostAddsRow : OpenClaim := { program := "ytaifcchkflcbhaa", sum := "81142ef77ad707ddf96275c9f9cebe47fb12b8587c979cba525c41edc3ca5478", func := "loop.example/g00655/laws.FnCostAdds", spec := "fnCostAdds", unfollowed := true, recurses := true, apart := false }
def FnCostAddsSaid : Prop := fnCostAddsRow.holds Try.pinned (OpenSpec.ofChange fnCostAddsSpec)

/-- ITS FALSE NEIGHBOUR: 'it returns false'. Refute it at one input. -/
def fnCostAddsWrong : ChangeSpec := { name := "fnCostAdds", fn := fun _ => fun
  | [d] => { results := [.lit (.bool false)], args := [d] }
  | _ => none }
def FnCostAddsWrongFalsely : Prop := fnCostAddsRow.holds Try.pinned (OpenSpec.ofChange fnCostAddsWrong)

/-- 'laws.FnPutDrop': WHATEVER THE INPUT: true; the input reads as it did. -/
def fnPutDropSpec : ChangeSpec := { name := "fnPutDrop", fn := fun _ => fun
  | [d] => { results := [.lit (.bool true)], args := [d] }
  | _ => none }
def fnPutDropRow : OpenClaim := { program := "ytaifcchkflcbhaa", sum := "81142ef77ad707ddf96275c9f9cebe47fb12b8587c979cba525c41edc3ca5478", func := "loop.example/g00655/laws.FnPutDrop", spec := "fnPutDrop", apart := false }
def FnPutDropSaid : Prop := fnPutDropRow.holds Try.pinned (OpenSpec.ofChange fnPutDropSpec)

/-- ITS FALSE NEIGHBOUR: 'it returns false'. Refute it at one input. -/
def fnPutDropWrong : ChangeSpec := { name := "fnPutDrop", fn := fun _ => fun
  | [d] => { results := [.lit (.bool false)], args := [d] }
  | _ => none }
def FnPutDropWrongFalsely : Prop := fnPutDropRow.holds Try.pinned (OpenSpec.ofChange fnPutDropWrong)

/-- 'laws.FnRuleNext': WHATEVER THE INPUT: true; the input reads as it did. -/
def fnRuleNextSpec : ChangeSpec := { name := "fnRuleNext", fn := fun _ => fun
  | [d] => { results := [.lit (.bool true)], args := [d] }
  | _ => none }
def fnRuleNextRow : OpenClaim := { program := "ytaifcchkflcbhaa", sum := "81142ef77ad707ddf96275c9f9cebe47fb12b8587c979cba525c41edc3ca5478", func := "loop.example/g00655/laws.FnRuleNext", spec := "fnRuleNext", unfollowed := true, recurses := true, apart := false }
def FnRuleNextSaid : Prop := fnRuleNextRow.holds Try.pinned (OpenSpec.ofChange fnRuleNextSpec)

/-- ITS FALSE NEIGHBOUR: 'it returns false'. Refute it at one input. -/
def fnRuleNextWrong : ChangeSpec := { name := "fnRuleNext", fn := fun _ => fun
  | [d] => { results := [.lit (.bool false)], args := [d] }
  | _ => none }
def FnRuleNextWrongFalsely : Prop := fnRuleNextRow.holds Try.pinned (OpenSpec.ofChange fnRuleNextWrong)

/-- 'laws.FnLanesKept': WHATEVER THE INPUT: true; the input reads as it did. -/
def fnLanesKeptSpec : ChangeSpec := { name := "fnLanesKept", fn := fun _ => fun
  | [d] => { results := [.lit (.bool true)], args := [d] }
  | _ => none }
def fnLanesKeptRow : OpenClaim := { program := "ytaifcchkflcbhaa", sum := "81142ef77ad707ddf96275c9f9cebe47fb12b8587c979cba525c41edc3ca5478", func := "loop.example/g00655/laws.FnLanesKept", spec := "fnLanesKept", inPlace := ["slices.overlaps[loop.example/g00655/impl.Lane]"], unfollowed := true, recurses := true, apart := false }
def FnLanesKeptSaid : Prop := fnLanesKeptRow.holds Try.pinned (OpenSpec.ofChange fnLanesKeptSpec)

/-- ITS FALSE NEIGHBOUR: 'it returns false'. Refute it at one input. -/
def fnLanesKeptWrong : ChangeSpec := { name := "fnLanesKept", fn := fun _ => fun
  | [d] => { results := [.lit (.bool false)], args := [d] }
  | _ => none }
def FnLanesKeptWrongFalsely : Prop := fnLanesKeptRow.holds Try.pinned (OpenSpec.ofChange fnLanesKeptWrong)

/-- 'laws.FnExactTreeRebase': WHATEVER THE INPUT: true; the input reads as it did. -/
def fnExactTreeRebaseSpec : ChangeSpec := { name := "fnExactTreeRebase", fn := fun _ => fun
  | [d] => { results := [.lit (.bool true)], args := [d] }
  | _ => none }
def fnExactTreeRebaseRow : OpenClaim := { program := "ytaifcchkflcbhaa", sum := "81142ef77ad707ddf96275c9f9cebe47fb12b8587c979cba525c41edc3ca5478", func := "loop.example/g00655/laws.FnExactTreeRebase", spec := "fnExactTreeRebase", unfollowed := true, recurses := true, apart := false }
def FnExactTreeRebaseSaid : Prop := fnExactTreeRebaseRow.holds Try.pinned (OpenSpec.ofChange fnExactTreeRebaseSpec)

/-- ITS FALSE NEIGHBOUR: 'it returns false'. Refute it at one input. -/
def fnExactTreeRebaseWrong : ChangeSpec := { name := "fnExactTreeRebase", fn := fun _ => fun
  | [d] => { results := [.lit (.bool false)], args := [d] }
  | _ => none }
def FnExactTreeRebaseWrongFalsely : Prop := fnExactTreeRebaseRow.holds Try.pinned (OpenSpec.ofChange fnExactTreeRebaseWrong)

/-- 'laws.FnExactTreeCut': WHATEVER THE INPUT: true; the input reads as it did. -/
def fnExactTreeCutSpec : ChangeSpec := { name := "fnExactTreeCut", fn := fun _ => fun
  | [d1, d2] => { results := [.lit (.bool true)], args := [d1, d2] }
  | _ => none }
def fnExactTreeCutRow : OpenClaim := { program := "ytaifcchkflcbhaa", sum := "81142ef77ad707ddf96275c9f9cebe47fb12b8587c979cba525c41edc3ca5478", func := "loop.example/g00655/laws.FnExactTreeCut", spec := "fnExactTreeCut", unfollowed := true, recurses := true, apart := false }
def FnExactTreeCutSaid : Prop := fnExactTreeCutRow.holds Try.pinned (OpenSpec.ofChange fnExactTreeCutSpec)

/-- ITS FALSE NEIGHBOUR: 'it returns false'. Refute it at one input. -/
def fnExactTreeCutWrong : ChangeSpec := { name := "fnExactTreeCut", fn := fun _ => fun
  | [d1, d2] => { results := [.lit (.bool false)], args := [d1, d2] }
  | _ => none }
def FnExactTreeCutWrongFalsely : Prop := fnExactTreeCutRow.holds Try.pinned (OpenSpec.ofChange fnExactTreeCutWrong)

/- THE SECOND FORM. 'bulk': how many values and letters a reading holds, each counted each time it is reached (what is shared counts as often as it is met; a slice's spare places count too). A statement '..UptoSaid' is the law's where the arguments, and the package variables that the reading takes, are together of bulk at most 1048576: NARROWER than '..Said'. Prove '..Said' where nothing that the law and all that it calls make is longer than what came in: it says more and counts as full. Else prove '..UptoSaid'. A law counts once. -/
mutual
def uptoBulk {H : Type} : DataW H → Nat
  | .lit (.string bytes) => bytes.length + 1
  | .lit _ => 1
  | .nil => 1
  | .ptr d => uptoBulk d + 1
  | .slice elems spare => uptoBulkAll elems + uptoBulkAll spare + 1
  | .agg parts => uptoBulkAll parts + 1
  | .iface _ d => uptoBulk d + 1
  | .map entries => uptoBulkEntries entries + 1
  | .held _ => 1
def uptoBulkAll {H : Type} : List (DataW H) → Nat
  | [] => 0
  | d :: r => uptoBulk d + uptoBulkAll r
def uptoBulkEntries {H : Type} : List (Lit × DataW H) → Nat
  | [] => 0
  | x :: r => uptoBulkEntry x + uptoBulkEntries r
def uptoBulkEntry {H : Type} : Lit × DataW H → Nat
  | (.string bytes, d) => bytes.length + uptoBulk d + 1
  | (_, d) => uptoBulk d + 1
 end
def uptoSmall : (H : Type) → List (DataW H) → Bool := fun _ ds => decide (uptoBulkAll ds ≤ 1048576)
def OpenSpec.upto (s : _root_.Go.ChangeSpec) : _root_.Go.OpenSpec := { _root_.Go.OpenSpec.ofChange s with cond := some uptoSmall }

/-- 'laws.FnPrefixHolds', WHERE WHAT IT READS IS OF BULK AT MOST 1048576: true; the input reads as it did. -/
def fnPrefixHoldsUptoRow : OpenClaim := { program := "ytaifcchkflcbhaa", sum := "81142ef77ad707ddf96275c9f9cebe47fb12b8587c979cba525c41edc3ca5478", func := "loop.example/g00655/laws.FnPrefixHolds", spec := "fnPrefixHolds", apart := false, narrowed := true }
def FnPrefixHoldsUptoSaid : Prop := fnPrefixHoldsUptoRow.holds Try.pinned (OpenSpec.upto fnPrefixHoldsSpec)

/-- 'laws.FnExactLinePut', WHERE WHAT IT READS IS OF BULK AT MOST 1048576: true; the input reads as it did. -/
def fnExactLinePutUptoRow : OpenClaim := { program := "ytaifcchkflcbhaa", sum := "81142ef77ad707ddf96275c9f9cebe47fb12b8587c979cba525c41edc3ca5478", func := "loop.example/g00655/laws.FnExactLinePut", spec := "fnExactLinePut", unfollowed := true, recurses := true, apart := false, narrowed := true }
def FnExactLinePutUptoSaid : Prop := fnExactLinePutUptoRow.holds Try.pinned (OpenSpec.upto fnExactLinePutSpec)

/-- 'laws.FnExactGapOf', WHERE WHAT IT READS IS OF BULK AT MOST 1048576: true; the input reads as it did. -/
def fnExactGapOfUptoRow : OpenClaim := { program := "ytaifcchkflcbhaa", sum := "81142ef77ad707ddf96275c9f9cebe47fb12b8587c979cba525c41edc3ca5478", func := "loop.example/g00655/laws.FnExactGapOf", spec := "fnExactGapOf", unfollowed := true, recurses := true, apart := false, narrowed := true }
def FnExactGapOfUptoSaid : Prop := fnExactGapOfUptoRow.holds Try.pinned (OpenSpec.upto fnExactGapOfSpec)

/-- 'laws.FnExactTreePick', WHERE WHAT IT READS IS OF BULK AT MOST 1048576: true; the input reads as it did. -/
def fnExactTreePickUptoRow : OpenClaim := { program := "ytaifcchkflcbhaa", sum := "81142ef77ad707ddf96275c9f9cebe47fb12b8587c979cba525c41edc3ca5478", func := "loop.example/g00655/laws.FnExactTreePick", spec := "fnExactTreePick", apart := false, narrowed := true }
def FnExactTreePickUptoSaid : Prop := fnExactTreePickUptoRow.holds Try.pinned (OpenSpec.upto fnExactTreePickSpec)

/-- 'laws.FnExactWorstSpan', WHERE WHAT IT READS IS OF BULK AT MOST 1048576: true; the input reads as it did. -/
def fnExactWorstSpanUptoRow : OpenClaim := { program := "ytaifcchkflcbhaa", sum := "81142ef77ad707ddf96275c9f9cebe47fb12b8587c979cba525c41edc3ca5478", func := "loop.example/g00655/laws.FnExactWorstSpan", spec := "fnExactWorstSpan", unfollowed := true, recurses := true, apart := false, narrowed := true }
def FnExactWorstSpanUptoSaid : Prop := fnExactWorstSpanUptoRow.holds Try.pinned (OpenSpec.upto fnExactWorstSpanSpec)

/-- 'laws.FnTurnedKey', WHERE WHAT IT READS IS OF BULK AT MOST 1048576: true; the input reads as it did. -/
def fnTurnedKeyUptoRow : OpenClaim := { program := "ytaifcchkflcbhaa", sum := "81142ef77ad707ddf96275c9f9cebe47fb12b8587c979cba525c41edc3ca5478", func := "loop.example/g00655/laws.FnTurnedKey", spec := "fnTurnedKey", apart := false, narrowed := true }
def FnTurnedKeyUptoSaid : Prop := fnTurnedKeyUptoRow.holds Try.pinned (OpenSpec.upto fnTurnedKeySpec)

/-- 'laws.FnCostAdds', WHERE WHAT IT READS IS OF BULK AT MOST 1048576: true; the input reads as it did. -/
def fnCostAddsUptoRow : OpenClaim := { program := "ytaifcchkflcbhaa", sum := "81142ef77ad707ddf96275c9f9cebe47fb12b8587c979cba525c41edc3ca5478", func := "loop.example/g00655/laws.FnCostAdds", spec := "fnCostAdds", unfollowed := true, recurses := true, apart := false, narrowed := true }
def FnCostAddsUptoSaid : Prop := fnCostAddsUptoRow.holds Try.pinned (OpenSpec.upto fnCostAddsSpec)

/-- 'laws.FnPutDrop', WHERE WHAT IT READS IS OF BULK AT MOST 1048576: true; the input reads as it did. -/
def fnPutDropUptoRow : OpenClaim := { program := "ytaifcchkflcbhaa", sum := "81142ef77ad707ddf96275c9f9cebe47fb12b8587c979cba525c41edc3ca5478", func := "loop.example/g00655/laws.FnPutDrop", spec := "fnPutDrop", apart := false, narrowed := true }
def FnPutDropUptoSaid : Prop := fnPutDropUptoRow.holds Try.pinned (OpenSpec.upto fnPutDropSpec)

/-- 'laws.FnRuleNext', WHERE WHAT IT READS IS OF BULK AT MOST 1048576: true; the input reads as it did. -/
def fnRuleNextUptoRow : OpenClaim := { program := "ytaifcchkflcbhaa", sum := "81142ef77ad707ddf96275c9f9cebe47fb12b8587c979cba525c41edc3ca5478", func := "loop.example/g00655/laws.FnRuleNext", spec := "fnRuleNext", unfollowed := true, recurses := true, apart := false, narrowed := true }
def FnRuleNextUptoSaid : Prop := fnRuleNextUptoRow.holds Try.pinned (OpenSpec.upto fnRuleNextSpec)

/-- 'laws.FnLanesKept', WHERE WHAT IT READS IS OF BULK AT MOST 1048576: true; the input reads as it did. -/
def fnLanesKeptUptoRow : OpenClaim := { program := "ytaifcchkflcbhaa", sum := "81142ef77ad707ddf96275c9f9cebe47fb12b8587c979cba525c41edc3ca5478", func := "loop.example/g00655/laws.FnLanesKept", spec := "fnLanesKept", inPlace := ["slices.overlaps[loop.example/g00655/impl.Lane]"], unfollowed := true, recurses := true, apart := false, narrowed := true }
def FnLanesKeptUptoSaid : Prop := fnLanesKeptUptoRow.holds Try.pinned (OpenSpec.upto fnLanesKeptSpec)

/-- 'laws.FnExactTreeRebase', WHERE WHAT IT READS IS OF BULK AT MOST 1048576: true; the input reads as it did. -/
def fnExactTreeRebaseUptoRow : OpenClaim := { program := "ytaifcchkflcbhaa", sum := "81142ef77ad707ddf96275c9f9cebe47fb12b8587c979cba525c41edc3ca5478", func := "loop.example/g00655/laws.FnExactTreeRebase", spec := "fnExactTreeRebase", unfollowed := true, recurses := true, apart := false, narrowed := true }
def FnExactTreeRebaseUptoSaid : Prop := fnExactTreeRebaseUptoRow.holds Try.pinned (OpenSpec.upto fnExactTreeRebaseSpec)

/-- 'laws.FnExactTreeCut', WHERE WHAT IT READS IS OF BULK AT MOST 1048576: true; the input reads as it did. -/
def fnExactTreeCutUptoRow : OpenClaim := { program := "ytaifcchkflcbhaa", sum := "81142ef77ad707ddf96275c9f9cebe47fb12b8587c979cba525c41edc3ca5478", func := "loop.example/g00655/laws.FnExactTreeCut", spec := "fnExactTreeCut", unfollowed := true, recurses := true, apart := false, narrowed := true }
def FnExactTreeCutUptoSaid : Prop := fnExactTreeCutUptoRow.holds Try.pinned (OpenSpec.upto fnExactTreeCutSpec)

end Rows
end Go.Proofs.Ytaifcchkflcbhaa
