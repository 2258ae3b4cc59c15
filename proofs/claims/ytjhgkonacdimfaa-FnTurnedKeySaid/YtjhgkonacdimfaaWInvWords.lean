-- words that the kit's printer laid for this seat, cut down by a program of this session's to what this claim names
import Derived.Test.YtjhgkonacdimfaaWInv
import Derived.Test.YtjhgkonacdimfaaWFootNe
namespace Go.Proofs.YtjhgkonacdimfaaW.PrintWords
open Go.RowKit
end Go.Proofs.YtjhgkonacdimfaaW.PrintWords
namespace Go.Proofs.YtjhgkonacdimfaaW.PrintLast
section
variable {ops : Array Oper} {a : Act} {o og : Oper} {g : Nat} {t : Tmp} {u : Bool}
end
end Go.Proofs.YtjhgkonacdimfaaW.PrintLast
