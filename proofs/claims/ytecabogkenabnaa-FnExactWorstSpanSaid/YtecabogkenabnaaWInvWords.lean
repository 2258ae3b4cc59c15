-- words that the kit's printer laid for this seat, cut down by a program of this session's to what this claim names
import Derived.Test.YtecabogkenabnaaWInv
import Derived.Test.YtecabogkenabnaaWFootNe
namespace Go.Proofs.YtecabogkenabnaaW.PrintWords
open Go.RowKit
end Go.Proofs.YtecabogkenabnaaW.PrintWords
namespace Go.Proofs.YtecabogkenabnaaW.PrintLast
section
variable {ops : Array Oper} {a : Act} {o og : Oper} {g : Nat} {t : Tmp} {u : Bool}
end
end Go.Proofs.YtecabogkenabnaaW.PrintLast
