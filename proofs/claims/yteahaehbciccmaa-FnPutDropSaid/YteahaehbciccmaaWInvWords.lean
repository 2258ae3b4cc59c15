-- words that the kit's printer laid for this seat, cut down by a program of this session's to what this claim names
import Derived.Test.YteahaehbciccmaaWInv
import Derived.Test.YteahaehbciccmaaWFootNe
namespace Go.Proofs.YteahaehbciccmaaW.PrintWords
open Go.RowKit
end Go.Proofs.YteahaehbciccmaaW.PrintWords
namespace Go.Proofs.YteahaehbciccmaaW.PrintLast
section
variable {ops : Array Oper} {a : Act} {o og : Oper} {g : Nat} {t : Tmp} {u : Bool}
end
end Go.Proofs.YteahaehbciccmaaW.PrintLast
