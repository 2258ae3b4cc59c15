-- words that the kit's printer laid for this seat, cut down by a program of this session's to what this claim names
import Derived.Test.YtmloggnobgikdabWInv
import Derived.Test.YtmloggnobgikdabWFootNe
namespace Go.Proofs.YtmloggnobgikdabW.PrintWords
open Go.RowKit
end Go.Proofs.YtmloggnobgikdabW.PrintWords
namespace Go.Proofs.YtmloggnobgikdabW.PrintLast
section
variable {ops : Array Oper} {a : Act} {o og : Oper} {g : Nat} {t : Tmp} {u : Bool}
end
end Go.Proofs.YtmloggnobgikdabW.PrintLast
