-- words that the kit's printer laid for this seat, cut down by a program of this session's to what this claim names
import Derived.Test.YtjhgkonacdimfacWInv
import Derived.Test.YtjhgkonacdimfacWFootNe
namespace Go.Proofs.YtjhgkonacdimfacW.PrintWords
open Go.RowKit
end Go.Proofs.YtjhgkonacdimfacW.PrintWords
namespace Go.Proofs.YtjhgkonacdimfacW.PrintLast
section
variable {ops : Array Oper} {a : Act} {o og : Oper} {g : Nat} {t : Tmp} {u : Bool}
end
end Go.Proofs.YtjhgkonacdimfacW.PrintLast
