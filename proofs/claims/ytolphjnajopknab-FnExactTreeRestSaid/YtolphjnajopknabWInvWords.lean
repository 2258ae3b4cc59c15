-- words that the kit's printer laid for this seat, cut down by a program of this session's to what this claim names
import Derived.Test.YtolphjnajopknabWInv
import Derived.Test.YtolphjnajopknabWFootNe
namespace Go.Proofs.YtolphjnajopknabW.PrintWords
open Go.RowKit
end Go.Proofs.YtolphjnajopknabW.PrintWords
namespace Go.Proofs.YtolphjnajopknabW.PrintLast
section
variable {ops : Array Oper} {a : Act} {o og : Oper} {g : Nat} {t : Tmp} {u : Bool}
end
end Go.Proofs.YtolphjnajopknabW.PrintLast
