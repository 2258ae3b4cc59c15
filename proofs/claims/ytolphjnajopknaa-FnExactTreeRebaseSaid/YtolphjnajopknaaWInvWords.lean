-- words that the kit's printer laid for this seat, cut down by a program of this session's to what this claim names
import Derived.Test.YtolphjnajopknaaWInv
import Derived.Test.YtolphjnajopknaaWFootNe
namespace Go.Proofs.YtolphjnajopknaaW.PrintWords
open Go.RowKit
end Go.Proofs.YtolphjnajopknaaW.PrintWords
namespace Go.Proofs.YtolphjnajopknaaW.PrintLast
section
variable {ops : Array Oper} {a : Act} {o og : Oper} {g : Nat} {t : Tmp} {u : Bool}
end
end Go.Proofs.YtolphjnajopknaaW.PrintLast
