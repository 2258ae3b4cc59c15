/- Words of this session's: what an argument reads as, opened by its kind: numbers, structs, slices of these, to any depth. No condition beyond those that stand in each line. -/
import Derived.Test.YtpkdkhhknmlpjaaWWords
import Derived.Test.YtpkdkhhknmlpjaaWLast
import Derived.Test.YtpkdkhhknmlpjaaWMore
import Derived.Deep.Slices
import Derived.DataReads
namespace Go.Proofs.YtpkdkhhknmlpjaaV
open Go.RowKit Go.Proofs.YtpkdkhhknmlpjaaW.PrintWords Go.Proofs.YtpkdkhhknmlpjaaW.PrintLast Go.Proofs.YtpkdkhhknmlpjaaW.PrintMore Go.Deep
/-- What a reading of type T gives: a value of kind d, and what is known of it. -/
structure Opens {α : Type} (P : Program) (d : Kd α) (ok : α → Prop) (T : TypeId) : Prop where
  one : P.cellsOf T = d.sz
  two : ∀ (H : Type) (enc : TypeId × Value → H) (w : World) (base : Nat) (spare : Nat → Bool) (held : Bool) (fuel : Nat) (cs : List Value) (x : DataW H × List MemPlace), DataW.trod enc P w base spare held fuel T cs = some x → ∃ y, d.K w y cs ∧ ok y
/-- The same of a struct's fields from a place on. -/
structure OpensF {α : Type} (P : Program) (d : Kd α) (ok : α → Prop) (fs : List Field) (off : Nat) : Prop where
  all : ∀ (H : Type) (enc : TypeId × Value → H) (w : World) (base : Nat) (spare : Nat → Bool) (held : Bool) (n : Nat) (cs : List Value), cs.length = off + d.sz →
    (∀ f ∈ fs, ∃ x, DataW.trod enc P w base spare held n f.type ((cs.drop f.offset).take (P.cellsOf f.type)) = some x) → ∃ y, d.K w y (cs.drop off) ∧ ok y
section
variable {P : Program} {T : TypeId}
/-- A reading, by its fuel. -/
theorem Opens.of {α : Type} {d : Kd α} {ok : α → Prop} (h : Opens P d ok T) {H : Type} {enc : TypeId × Value → H} {w : World} {base : Nat} {spare : Nat → Bool} {held : Bool} {v : Value} {x : DataW H} {ps : List MemPlace} (hr : DataW.Trod enc P w base spare held T v x ps) : ∃ y, d.K w y v.cells.toList ∧ ok y := by
  obtain ⟨fuel, hr⟩ := hr
  exact h.two _ _ _ _ _ _ _ _ _ hr
end
end Go.Proofs.YtpkdkhhknmlpjaaV
