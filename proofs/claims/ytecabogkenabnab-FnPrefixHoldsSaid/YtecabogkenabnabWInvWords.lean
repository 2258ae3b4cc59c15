-- words that the kit's printer laid for this seat, cut down by a program of this session's to what this claim names
import Derived.Test.YtecabogkenabnabWInv
import Derived.Test.YtecabogkenabnabWFootNe
namespace Go.Proofs.YtecabogkenabnabW.PrintWords
open Go.RowKit
end Go.Proofs.YtecabogkenabnabW.PrintWords
namespace Go.Proofs.YtecabogkenabnabW.PrintLast
section
variable {ops : Array Oper} {a : Act} {o og : Oper} {g : Nat} {t : Tmp} {u : Bool}
end
end Go.Proofs.YtecabogkenabnabW.PrintLast
