/-
  No cell of these rows narrows 'for every input' (looked for: loops, veiled, ifaces, maps, wideKeys, modest, calm, conditions, laid).
  DERIVED. THE GIVEN ROWS OF THIS SEAT. 12 by the template 'for every input the law returns true; each argument reads behind the call as it read before'; 0 by the template 'total and deterministic' (their statements: YteecolnemffffaaTotals.lean).
  GIVEN WITH THE SEED: the statements are not yours to turn. If you find one false, say at which input.
  Laid BY PROGRAM, IN A SANDBOX (cutbox-rows.mjs): the forced cells as the released guide's own fill.sh prints them over the translation 441ae5eb5f8574ae… (all of the seat's roots in one cut). By AI agents, Wed Nov 11 2026. No macro, syntax, notation, axiom, sorry.
-/
import Derived.Test.YteecolnemffffaaChecked
import GoSem.Claim
import GoSem.ClaimJoined
import GoSem.ClaimMapViews
import Derived.JoinedTies
import Derived.KernelRfl
namespace Go.Proofs.Yteecolnemffffaa
/- THE CELL 'sum', in the pinned program and in every row, IS THE sha256 OF THE DUMP (.gsa) THAT YteecolnemffffaaProg.lean LOADS. Nothing in Lean hashes anything: it is a label: what it is worth is what the hold of that sum in a sandbox is worth. -/
noncomputable def Try.pinned : Pinned := { name := "yteecolnemffffaa", sum := "441ae5eb5f8574aec93cb62171472f1c9855483b2d7d7821a76dca9f1ce35b32", checked := Try.checked }
namespace Rows
def none {H : Type} : Left H := { results := [], args := [] }

/-- 'laws.FnExactGapBound': WHATEVER THE INPUT: true; the input reads as it did. -/
def fnExactGapBoundSpec : ChangeSpec := { name := "fnExactGapBound", fn := fun _ => fun
  | [d1, d2, d3] => { results := [.lit (.bool true)], args := [d1, d2, d3] }
  | _ => none }
def fnExactGapBoundRow : OpenClaim := { program := "yteecolnemffffaa", sum := "441ae5eb5f8574aec93cb62171472f1c9855483b2d7d7821a76dca9f1ce35b32", func := "loop.example/g00655/laws.FnExactGapBound", spec := "fnExactGapBound", apart := false }
def FnExactGapBoundSaid : Prop := fnExactGapBoundRow.holds Try.pinned (OpenSpec.ofChange fnExactGapBoundSpec)

/-- ITS FALSE NEIGHBOUR: 'it returns false'. Refute it at one input. -/
def fnExactGapBoundWrong : ChangeSpec := { name := "fnExactGapBound", fn := fun _ => fun
  | [d1, d2, d3] => { results := [.lit (.bool false)], args := [d1, d2, d3] }
  | _ => none }
def FnExactGapBoundWrongFalsely : Prop := fnExactGapBoundRow.holds Try.pinned (OpenSpec.ofChange fnExactGapBoundWrong)

/-- 'laws.FnExactLineNew': WHATEVER THE INPUT: true; the input reads as it did. -/
def fnExactLineNewSpec : ChangeSpec := { name := "fnExactLineNew", fn := fun _ => fun
  | [d] => { results := [.lit (.bool true)], args := [d] }
  | _ => none }
def fnExactLineNewRow : OpenClaim := { program := "yteecolnemffffaa", sum := "441ae5eb5f8574aec93cb62171472f1c9855483b2d7d7821a76dca9f1ce35b32", func := "loop.example/g00655/laws.FnExactLineNew", spec := "fnExactLineNew", apart := false }
def FnExactLineNewSaid : Prop := fnExactLineNewRow.holds Try.pinned (OpenSpec.ofChange fnExactLineNewSpec)

/-- ITS FALSE NEIGHBOUR: 'it returns false'. Refute it at one input. -/
def fnExactLineNewWrong : ChangeSpec := { name := "fnExactLineNew", fn := fun _ => fun
  | [d] => { results := [.lit (.bool false)], args := [d] }
  | _ => none }
def FnExactLineNewWrongFalsely : Prop := fnExactLineNewRow.holds Try.pinned (OpenSpec.ofChange fnExactLineNewWrong)

/-- 'laws.FnExactDealsOk': WHATEVER THE INPUT: true; the input reads as it did. -/
def fnExactDealsOkSpec : ChangeSpec := { name := "fnExactDealsOk", fn := fun _ => fun
  | [d] => { results := [.lit (.bool true)], args := [d] }
  | _ => none }
def fnExactDealsOkRow : OpenClaim := { program := "yteecolnemffffaa", sum := "441ae5eb5f8574aec93cb62171472f1c9855483b2d7d7821a76dca9f1ce35b32", func := "loop.example/g00655/laws.FnExactDealsOk", spec := "fnExactDealsOk", unfollowed := true, recurses := true, apart := false }
def FnExactDealsOkSaid : Prop := fnExactDealsOkRow.holds Try.pinned (OpenSpec.ofChange fnExactDealsOkSpec)

/-- ITS FALSE NEIGHBOUR: 'it returns false'. Refute it at one input. -/
def fnExactDealsOkWrong : ChangeSpec := { name := "fnExactDealsOk", fn := fun _ => fun
  | [d] => { results := [.lit (.bool false)], args := [d] }
  | _ => none }
def FnExactDealsOkWrongFalsely : Prop := fnExactDealsOkRow.holds Try.pinned (OpenSpec.ofChange fnExactDealsOkWrong)

/-- 'laws.FnExactLineOk': WHATEVER THE INPUT: true; the input reads as it did. -/
def fnExactLineOkSpec : ChangeSpec := { name := "fnExactLineOk", fn := fun _ => fun
  | [d] => { results := [.lit (.bool true)], args := [d] }
  | _ => none }
def fnExactLineOkRow : OpenClaim := { program := "yteecolnemffffaa", sum := "441ae5eb5f8574aec93cb62171472f1c9855483b2d7d7821a76dca9f1ce35b32", func := "loop.example/g00655/laws.FnExactLineOk", spec := "fnExactLineOk", apart := false }
def FnExactLineOkSaid : Prop := fnExactLineOkRow.holds Try.pinned (OpenSpec.ofChange fnExactLineOkSpec)

/-- ITS FALSE NEIGHBOUR: 'it returns false'. Refute it at one input. -/
def fnExactLineOkWrong : ChangeSpec := { name := "fnExactLineOk", fn := fun _ => fun
  | [d] => { results := [.lit (.bool false)], args := [d] }
  | _ => none }
def FnExactLineOkWrongFalsely : Prop := fnExactLineOkRow.holds Try.pinned (OpenSpec.ofChange fnExactLineOkWrong)

/-- 'laws.FnExactLineHeld': WHATEVER THE INPUT: true; the input reads as it did. -/
def fnExactLineHeldSpec : ChangeSpec := { name := "fnExactLineHeld", fn := fun _ => fun
  | [d] => { results := [.lit (.bool true)], args := [d] }
  | _ => none }
def fnExactLineHeldRow : OpenClaim := { program := "yteecolnemffffaa", sum := "441ae5eb5f8574aec93cb62171472f1c9855483b2d7d7821a76dca9f1ce35b32", func := "loop.example/g00655/laws.FnExactLineHeld", spec := "fnExactLineHeld", apart := false }
def FnExactLineHeldSaid : Prop := fnExactLineHeldRow.holds Try.pinned (OpenSpec.ofChange fnExactLineHeldSpec)

/-- ITS FALSE NEIGHBOUR: 'it returns false'. Refute it at one input. -/
def fnExactLineHeldWrong : ChangeSpec := { name := "fnExactLineHeld", fn := fun _ => fun
  | [d] => { results := [.lit (.bool false)], args := [d] }
  | _ => none }
def FnExactLineHeldWrongFalsely : Prop := fnExactLineHeldRow.holds Try.pinned (OpenSpec.ofChange fnExactLineHeldWrong)

/-- 'laws.FnExactBoth': WHATEVER THE INPUT: true; the input reads as it did. -/
def fnExactBothSpec : ChangeSpec := { name := "fnExactBoth", fn := fun _ => fun
  | [d1, d2, d3, d4, d5] => { results := [.lit (.bool true)], args := [d1, d2, d3, d4, d5] }
  | _ => none }
def fnExactBothRow : OpenClaim := { program := "yteecolnemffffaa", sum := "441ae5eb5f8574aec93cb62171472f1c9855483b2d7d7821a76dca9f1ce35b32", func := "loop.example/g00655/laws.FnExactBoth", spec := "fnExactBoth", unfollowed := true, recurses := true, apart := false }
def FnExactBothSaid : Prop := fnExactBothRow.holds Try.pinned (OpenSpec.ofChange fnExactBothSpec)

/-- ITS FALSE NEIGHBOUR: 'it returns false'. Refute it at one input. -/
def fnExactBothWrong : ChangeSpec := { name := "fnExactBoth", fn := fun _ => fun
  | [d1, d2, d3, d4, d5] => { results := [.lit (.bool false)], args := [d1, d2, d3, d4, d5] }
  | _ => none }
def FnExactBothWrongFalsely : Prop := fnExactBothRow.holds Try.pinned (OpenSpec.ofChange fnExactBothWrong)

/-- 'laws.FnExactTreeNew': WHATEVER THE INPUT: true; the input reads as it did. -/
def fnExactTreeNewSpec : ChangeSpec := { name := "fnExactTreeNew", fn := fun _ => fun
  | [d] => { results := [.lit (.bool true)], args := [d] }
  | _ => none }
def fnExactTreeNewRow : OpenClaim := { program := "yteecolnemffffaa", sum := "441ae5eb5f8574aec93cb62171472f1c9855483b2d7d7821a76dca9f1ce35b32", func := "loop.example/g00655/laws.FnExactTreeNew", spec := "fnExactTreeNew", apart := false }
def FnExactTreeNewSaid : Prop := fnExactTreeNewRow.holds Try.pinned (OpenSpec.ofChange fnExactTreeNewSpec)

/-- ITS FALSE NEIGHBOUR: 'it returns false'. Refute it at one input. -/
def fnExactTreeNewWrong : ChangeSpec := { name := "fnExactTreeNew", fn := fun _ => fun
  | [d] => { results := [.lit (.bool false)], args := [d] }
  | _ => none }
def FnExactTreeNewWrongFalsely : Prop := fnExactTreeNewRow.holds Try.pinned (OpenSpec.ofChange fnExactTreeNewWrong)

/-- 'laws.FnExactTops': WHATEVER THE INPUT: true; the input reads as it did. -/
def fnExactTopsSpec : ChangeSpec := { name := "fnExactTops", fn := fun _ => fun
  | [d1, d2, d3, d4] => { results := [.lit (.bool true)], args := [d1, d2, d3, d4] }
  | _ => none }
def fnExactTopsRow : OpenClaim := { program := "yteecolnemffffaa", sum := "441ae5eb5f8574aec93cb62171472f1c9855483b2d7d7821a76dca9f1ce35b32", func := "loop.example/g00655/laws.FnExactTops", spec := "fnExactTops", unfollowed := true, recurses := true, apart := false }
def FnExactTopsSaid : Prop := fnExactTopsRow.holds Try.pinned (OpenSpec.ofChange fnExactTopsSpec)

/-- ITS FALSE NEIGHBOUR: 'it returns false'. Refute it at one input. -/
def fnExactTopsWrong : ChangeSpec := { name := "fnExactTops", fn := fun _ => fun
  | [d1, d2, d3, d4] => { results := [.lit (.bool false)], args := [d1, d2, d3, d4] }
  | _ => none }
def FnExactTopsWrongFalsely : Prop := fnExactTopsRow.holds Try.pinned (OpenSpec.ofChange fnExactTopsWrong)

/-- 'laws.FnExactTaken': WHATEVER THE INPUT: true; the input reads as it did. -/
def fnExactTakenSpec : ChangeSpec := { name := "fnExactTaken", fn := fun _ => fun
  | [d1, d2, d3, d4] => { results := [.lit (.bool true)], args := [d1, d2, d3, d4] }
  | _ => none }
def fnExactTakenRow : OpenClaim := { program := "yteecolnemffffaa", sum := "441ae5eb5f8574aec93cb62171472f1c9855483b2d7d7821a76dca9f1ce35b32", func := "loop.example/g00655/laws.FnExactTaken", spec := "fnExactTaken", unfollowed := true, recurses := true, apart := false }
def FnExactTakenSaid : Prop := fnExactTakenRow.holds Try.pinned (OpenSpec.ofChange fnExactTakenSpec)

/-- ITS FALSE NEIGHBOUR: 'it returns false'. Refute it at one input. -/
def fnExactTakenWrong : ChangeSpec := { name := "fnExactTaken", fn := fun _ => fun
  | [d1, d2, d3, d4] => { results := [.lit (.bool false)], args := [d1, d2, d3, d4] }
  | _ => none }
def FnExactTakenWrongFalsely : Prop := fnExactTakenRow.holds Try.pinned (OpenSpec.ofChange fnExactTakenWrong)

/-- 'laws.FnExactPrefixBytes': WHATEVER THE INPUT: true; the input reads as it did. -/
def fnExactPrefixBytesSpec : ChangeSpec := { name := "fnExactPrefixBytes", fn := fun _ => fun
  | [d] => { results := [.lit (.bool true)], args := [d] }
  | _ => none }
def fnExactPrefixBytesRow : OpenClaim := { program := "yteecolnemffffaa", sum := "441ae5eb5f8574aec93cb62171472f1c9855483b2d7d7821a76dca9f1ce35b32", func := "loop.example/g00655/laws.FnExactPrefixBytes", spec := "fnExactPrefixBytes", apart := false }
def FnExactPrefixBytesSaid : Prop := fnExactPrefixBytesRow.holds Try.pinned (OpenSpec.ofChange fnExactPrefixBytesSpec)

/-- ITS FALSE NEIGHBOUR: 'it returns false'. Refute it at one input. -/
def fnExactPrefixBytesWrong : ChangeSpec := { name := "fnExactPrefixBytes", fn := fun _ => fun
  | [d] => { results := [.lit (.bool false)], args := [d] }
  | _ => none }
def FnExactPrefixBytesWrongFalsely : Prop := fnExactPrefixBytesRow.holds Try.pinned (OpenSpec.ofChange fnExactPrefixBytesWrong)

/-- 'laws.FnExactMains': WHATEVER THE INPUT: true; the input reads as it did. -/
def fnExactMainsSpec : ChangeSpec := { name := "fnExactMains", fn := fun _ => fun
  | [d1, d2, d3, d4] => { results := [.lit (.bool true)], args := [d1, d2, d3, d4] }
  | _ => none }
def fnExactMainsRow : OpenClaim := { program := "yteecolnemffffaa", sum := "441ae5eb5f8574aec93cb62171472f1c9855483b2d7d7821a76dca9f1ce35b32", func := "loop.example/g00655/laws.FnExactMains", spec := "fnExactMains", unfollowed := true, recurses := true, apart := false }
def FnExactMainsSaid : Prop := fnExactMainsRow.holds Try.pinned (OpenSpec.ofChange fnExactMainsSpec)

/-- ITS FALSE NEIGHBOUR: 'it returns false'. Refute it at one input. -/
def fnExactMainsWrong : ChangeSpec := { name := "fnExactMains", fn := fun _ => fun
  | [d1, d2, d3, d4] => { results := [.lit (.bool false)], args := [d1, d2, d3, d4] }
  | _ => none }
def FnExactMainsWrongFalsely : Prop := fnExactMainsRow.holds Try.pinned (OpenSpec.ofChange fnExactMainsWrong)

/-- 'laws.FnExactTreeOk': WHATEVER THE INPUT: true; the input reads as it did. -/
def fnExactTreeOkSpec : ChangeSpec := { name := "fnExactTreeOk", fn := fun _ => fun
  | [d] => { results := [.lit (.bool true)], args := [d] }
  | _ => none }
def fnExactTreeOkRow : OpenClaim := { program := "yteecolnemffffaa", sum := "441ae5eb5f8574aec93cb62171472f1c9855483b2d7d7821a76dca9f1ce35b32", func := "loop.example/g00655/laws.FnExactTreeOk", spec := "fnExactTreeOk", apart := false }
def FnExactTreeOkSaid : Prop := fnExactTreeOkRow.holds Try.pinned (OpenSpec.ofChange fnExactTreeOkSpec)

/-- ITS FALSE NEIGHBOUR: 'it returns false'. Refute it at one input. -/
def fnExactTreeOkWrong : ChangeSpec := { name := "fnExactTreeOk", fn := fun _ => fun
  | [d] => { results := [.lit (.bool false)], args := [d] }
  | _ => none }
def FnExactTreeOkWrongFalsely : Prop := fnExactTreeOkRow.holds Try.pinned (OpenSpec.ofChange fnExactTreeOkWrong)

/- THE SECOND FORM. 'bulk': how many values and letters a reading holds, each counted each time it is reached (what is shared counts as often as it is met; a slice's spare places count too). A statement '..UptoSaid' is the law's where the arguments, and the package variables that the reading takes, are together of bulk at most 1048576: NARROWER than '..Said'. Prove '..Said' where nothing that the law and all that it calls make is longer than what came in: it says more and counts as full. Else prove '..UptoSaid'. A law counts once. -/
mutual
def uptoBulk {H : Type} : DataW H → Nat
  | .lit (.string bytes) => bytes.length + 1
  | .lit _ => 1
  | .nil => 1
  | .ptr d => uptoBulk d + 1
  | .slice elems spare => uptoBulkAll elems + uptoBulkAll spare + 1
  | .agg parts => uptoBulkAll parts + 1
  | .iface _ d => uptoBulk d + 1
  | .map entries => uptoBulkEntries entries + 1
  | .held _ => 1
def uptoBulkAll {H : Type} : List (DataW H) → Nat
  | [] => 0
  | d :: r => uptoBulk d + uptoBulkAll r
def uptoBulkEntries {H : Type} : List (Lit × DataW H) → Nat
  | [] => 0
  | x :: r => uptoBulkEntry x + uptoBulkEntries r
def uptoBulkEntry {H : Type} : Lit × DataW H → Nat
  | (.string bytes, d) => bytes.length + uptoBulk d + 1
  | (_, d) => uptoBulk d + 1
 end
def uptoSmall : (H : Type) → List (DataW H) → Bool := fun _ ds => decide (uptoBulkAll ds ≤ 1048576)
def OpenSpec.upto (s : _root_.Go.ChangeSpec) : _root_.Go.OpenSpec := { _root_.Go.OpenSpec.ofChange s with cond := some uptoSmall }

/-- 'laws.FnExactGapBound', WHERE WHAT IT READS IS OF BULK AT MOST 1048576: true; the input reads as it did. -/
def fnExactGapBoundUptoRow : OpenClaim := { program := "yteecolnemffffaa", sum := "441ae5eb5f8574aec93cb62171472f1c9855483b2d7d7821a76dca9f1ce35b32", func := "loop.example/g00655/laws.FnExactGapBound", spec := "fnExactGapBound", apart := false, narrowed := true }
def FnExactGapBoundUptoSaid : Prop := fnExactGapBoundUptoRow.holds Try.pinned (OpenSpec.upto fnExactGapBoundSpec)

/-- 'laws.FnExactLineNew', WHERE WHAT IT READS IS OF BULK AT MOST 1048576: true; the input reads as it did. -/
def fnExactLineNewUptoRow : OpenClaim := { program := "yteecolnemffffaa", sum := "441ae5eb5f8574aec93cb62171472f1c9855483b2d7d7821a76dca9f1ce35b32", func := "loop.example/g00655/laws.FnExactLineNew", spec := "fnExactLineNew", apart := false, narrowed := true }
def FnExactLineNewUptoSaid : Prop := fnExactLineNewUptoRow.holds Try.pinned (OpenSpec.upto fnExactLineNewSpec)

/-- 'laws.FnExactDealsOk', WHERE WHAT IT READS IS OF BULK AT MOST 1048576: true; the input reads as it did. -/
def fnExactDealsOkUptoRow : OpenClaim := { program := "yteecolnemffffaa", sum := "441ae5eb5f8574aec93cb62171472f1c9855483b2d7d7821a76dca9f1ce35b32", func := "loop.example/g00655/laws.FnExactDealsOk", spec := "fnExactDealsOk", unfollowed := true, recurses := true, apart := false, narrowed := true }
def FnExactDealsOkUptoSaid : Prop := fnExactDealsOkUptoRow.holds Try.pinned (OpenSpec.upto fnExactDealsOkSpec)

/-- 'laws.FnExactLineOk', WHERE WHAT IT READS IS OF BULK AT MOST 1048576: true; the input reads as it did. -/
def fnExactLineOkUptoRow : OpenClaim := { program := "yteecolnemffffaa", sum := "441ae5eb5f8574aec93cb62171472f1c9855483b2d7d7821a76dca9f1ce35b32", func := "loop.example/g00655/laws.FnExactLineOk", spec := "fnExactLineOk", apart := false, narrowed := true }
def FnExactLineOkUptoSaid : Prop := fnExactLineOkUptoRow.holds Try.pinned (OpenSpec.upto fnExactLineOkSpec)

/-- 'laws.FnExactLineHeld', WHERE WHAT IT READS IS OF BULK AT MOST 1048576: true; the input reads as it did. -/
def fnExactLineHeldUptoRow : OpenClaim := { program := "yteecolnemffffaa", sum := "441ae5eb5f8574aec93cb62171472f1c9855483b2d7d7821a76dca9f1ce35b32", func := "loop.example/g00655/laws.FnExactLineHeld", spec := "fnExactLineHeld", apart := false, narrowed := true }
def FnExactLineHeldUptoSaid : Prop := fnExactLineHeldUptoRow.holds Try.pinned (OpenSpec.upto fnExactLineHeldSpec)

/-- 'laws.FnExactBoth', WHERE WHAT IT READS IS OF BULK AT MOST 1048576: true; the input reads as it did. -/
def fnExactBothUptoRow : OpenClaim := { program := "yteecolnemffffaa", sum := "441ae5eb5f8574aec93cb62171472f1c9855483b2d7d7821a76dca9f1ce35b32", func := "loop.example/g00655/laws.FnExactBoth", spec := "fnExactBoth", unfollowed := true, recurses := true, apart := false, narrowed := true }
def FnExactBothUptoSaid : Prop := fnExactBothUptoRow.holds Try.pinned (OpenSpec.upto fnExactBothSpec)

/-- 'laws.FnExactTreeNew', WHERE WHAT IT READS IS OF BULK AT MOST 1048576: true; the input reads as it did. -/
def fnExactTreeNewUptoRow : OpenClaim := { program := "yteecolnemffffaa", sum := "441ae5eb5f8574aec93cb62171472f1c9855483b2d7d7821a76dca9f1ce35b32", func := "loop.example/g00655/laws.FnExactTreeNew", spec := "fnExactTreeNew", apart := false, narrowed := true }
def FnExactTreeNewUptoSaid : Prop := fnExactTreeNewUptoRow.holds Try.pinned (OpenSpec.upto fnExactTreeNewSpec)

/-- 'laws.FnExactTops', WHERE WHAT IT READS IS OF BULK AT MOST 1048576: true; the input reads as it did. -/
def fnExactTopsUptoRow : OpenClaim := { program := "yteecolnemffffaa", sum := "441ae5eb5f8574aec93cb62171472f1c9855483b2d7d7821a76dca9f1ce35b32", func := "loop.example/g00655/laws.FnExactTops", spec := "fnExactTops", unfollowed := true, recurses := true, apart := false, narrowed := true }
def FnExactTopsUptoSaid : Prop := fnExactTopsUptoRow.holds Try.pinned (OpenSpec.upto fnExactTopsSpec)

/-- 'laws.FnExactTaken', WHERE WHAT IT READS IS OF BULK AT MOST 1048576: true; the input reads as it did. -/
def fnExactTakenUptoRow : OpenClaim := { program := "yteecolnemffffaa", sum := "441ae5eb5f8574aec93cb62171472f1c9855483b2d7d7821a76dca9f1ce35b32", func := "loop.example/g00655/laws.FnExactTaken", spec := "fnExactTaken", unfollowed := true, recurses := true, apart := false, narrowed := true }
def FnExactTakenUptoSaid : Prop := fnExactTakenUptoRow.holds Try.pinned (OpenSpec.upto fnExactTakenSpec)

/-- 'laws.FnExactPrefixBytes', WHERE WHAT IT READS IS OF BULK AT MOST 1048576: true; the input reads as it did. -/
def fnExactPrefixBytesUptoRow : OpenClaim := { program := "yteecolnemffffaa", sum := "441ae5eb5f8574aec93cb62171472f1c9855483b2d7d7821a76dca9f1ce35b32", func := "loop.example/g00655/laws.FnExactPrefixBytes", spec := "fnExactPrefixBytes", apart := false, narrowed := true }
def FnExactPrefixBytesUptoSaid : Prop := fnExactPrefixBytesUptoRow.holds Try.pinned (OpenSpec.upto fnExactPrefixBytesSpec)

/-- 'laws.FnExactMains', WHERE WHAT IT READS IS OF BULK AT MOST 1048576: true; the input reads as it did. -/
def fnExactMainsUptoRow : OpenClaim := { program := "yteecolnemffffaa", sum := "441ae5eb5f8574aec93cb62171472f1c9855483b2d7d7821a76dca9f1ce35b32", func := "loop.example/g00655/laws.FnExactMains", spec := "fnExactMains", unfollowed := true, recurses := true, apart := false, narrowed := true }
def FnExactMainsUptoSaid : Prop := fnExactMainsUptoRow.holds Try.pinned (OpenSpec.upto fnExactMainsSpec)

/-- 'laws.FnExactTreeOk', WHERE WHAT IT READS IS OF BULK AT MOST 1048576: true; the input reads as it did. -/
def fnExactTreeOkUptoRow : OpenClaim := { program := "yteecolnemffffaa", sum := "441ae5eb5f8574aec93cb62171472f1c9855483b2d7d7821a76dca9f1ce35b32", func := "loop.example/g00655/laws.FnExactTreeOk", spec := "fnExactTreeOk", apart := false, narrowed := true }
def FnExactTreeOkUptoSaid : Prop := fnExactTreeOkUptoRow.holds Try.pinned (OpenSpec.upto fnExactTreeOkSpec)

end Rows
end Go.Proofs.Yteecolnemffffaa
