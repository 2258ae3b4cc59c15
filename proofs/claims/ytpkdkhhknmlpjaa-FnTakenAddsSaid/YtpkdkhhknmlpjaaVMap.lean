/- Words of this session's: a map with ints as keys that the call makes, and a slice compared with nil. No condition beyond those that stand in each line. -/
import Derived.Maps.Keyed
import Derived.Test.YtpkdkhhknmlpjaaVWords
namespace Go.Proofs.YtpkdkhhknmlpjaaV
open Go.RowKit Go.Proofs.YtpkdkhhknmlpjaaW.PrintWords Go.Proofs.YtpkdkhhknmlpjaaW.PrintLast Go.Proofs.YtpkdkhhknmlpjaaW.PrintMore
section
variable {α : Type}
/-- Where a key stands among the entries, and what it leads to. -/
def mfind : List (Int × α) → Int → Nat → Option (Nat × α)
  | [], _, _ => none
  | (k, v) :: r, x, i => if x = k then some (i, v) else mfind r x (i + 1)
/-- What a key leads to, or the zero value. -/
def mlook (d : α) (M : List (Int × α)) (x : Int) : α := ((mfind M x 0).map (·.2)).getD d
/-- The map with this key led to this value. -/
def mput (M : List (Int × α)) (x : Int) (v : α) : List (Int × α) := match mfind M x 0 with
  | some (j, _) => M.set j (x, v)
  | none => M ++ [(x, v)]
/-- The entries, as they lie in memory. -/
def ments (enc : α → Value) : List (Int × α) → Nat → List MapEntry
  | [], _ => []
  | (k, v) :: r, b => ⟨.int .i64 k, enc v, b⟩ :: ments enc r (b + 1)
/-- The map's block. -/
def mapB (enc : α → Value) (M : List (Int × α)) : Obj := .map (ments enc M 0).toArray M.length
variable {P : Program} {t kt et : TypeId} {w : World} {g : Nat} {enc : α → Value} {M : List (Int × α)} {x : Int}
end
section
variable {P : Program} {ops : Array Oper} {rest : List Oper} {o : Oper} {a : Act} {Q : Exit → Act → World → Prop} {α : Type} {enc : α → Value} {M : List (Int × α)} {W : World}
end
section
variable {P : Program}
variable {ops : Array Oper} {rest : List Oper} {o : Oper} {a : Act} {Q : Exit → Act → World → Prop} {W : World}
end
end Go.Proofs.YtpkdkhhknmlpjaaV
