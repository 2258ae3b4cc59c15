-- words that the kit's printer laid for this seat, cut down by a program of this session's to what this claim names
import Derived.Test.YtecabogkenabnadWInv
import Derived.Test.YtecabogkenabnadWFootNe
namespace Go.Proofs.YtecabogkenabnadW.PrintWords
open Go.RowKit
end Go.Proofs.YtecabogkenabnadW.PrintWords
namespace Go.Proofs.YtecabogkenabnadW.PrintLast
section
variable {ops : Array Oper} {a : Act} {o og : Oper} {g : Nat} {t : Tmp} {u : Bool}
end
end Go.Proofs.YtecabogkenabnadW.PrintLast
