-- words that the kit's printer laid for this seat, cut down by a program of this session's to what this claim names
import Derived.Test.YteecolnemffffaaWInv
import Derived.Test.YteecolnemffffaaWFootNe
namespace Go.Proofs.YteecolnemffffaaW.PrintWords
open Go.RowKit
end Go.Proofs.YteecolnemffffaaW.PrintWords
namespace Go.Proofs.YteecolnemffffaaW.PrintLast
section
variable {ops : Array Oper} {a : Act} {o og : Oper} {g : Nat} {t : Tmp} {u : Bool}
end
end Go.Proofs.YteecolnemffffaaW.PrintLast
