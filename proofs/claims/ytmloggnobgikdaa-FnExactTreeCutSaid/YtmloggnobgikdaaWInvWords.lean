-- words that the kit's printer laid for this seat, cut down by a program of this session's to what this claim names
import Derived.Test.YtmloggnobgikdaaWInv
import Derived.Test.YtmloggnobgikdaaWFootNe
namespace Go.Proofs.YtmloggnobgikdaaW.PrintWords
open Go.RowKit
end Go.Proofs.YtmloggnobgikdaaW.PrintWords
namespace Go.Proofs.YtmloggnobgikdaaW.PrintLast
section
variable {ops : Array Oper} {a : Act} {o og : Oper} {g : Nat} {t : Tmp} {u : Bool}
end
end Go.Proofs.YtmloggnobgikdaaW.PrintLast
