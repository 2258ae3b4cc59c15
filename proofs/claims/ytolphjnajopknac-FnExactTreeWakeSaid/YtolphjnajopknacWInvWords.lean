-- words that the kit's printer laid for this seat, cut down by a program of this session's to what this claim names
import Derived.Test.YtolphjnajopknacWInv
import Derived.Test.YtolphjnajopknacWFootNe
namespace Go.Proofs.YtolphjnajopknacW.PrintWords
open Go.RowKit
end Go.Proofs.YtolphjnajopknacW.PrintWords
namespace Go.Proofs.YtolphjnajopknacW.PrintLast
section
variable {ops : Array Oper} {a : Act} {o og : Oper} {g : Nat} {t : Tmp} {u : Bool}
end
end Go.Proofs.YtolphjnajopknacW.PrintLast
