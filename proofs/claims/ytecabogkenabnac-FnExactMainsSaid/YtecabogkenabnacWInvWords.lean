-- words that the kit's printer laid for this seat, cut down by a program of this session's to what this claim names
import Derived.Test.YtecabogkenabnacWInv
import Derived.Test.YtecabogkenabnacWFootNe
namespace Go.Proofs.YtecabogkenabnacW.PrintWords
open Go.RowKit
end Go.Proofs.YtecabogkenabnacW.PrintWords
namespace Go.Proofs.YtecabogkenabnacW.PrintLast
section
variable {ops : Array Oper} {a : Act} {o og : Oper} {g : Nat} {t : Tmp} {u : Bool}
end
end Go.Proofs.YtecabogkenabnacW.PrintLast
