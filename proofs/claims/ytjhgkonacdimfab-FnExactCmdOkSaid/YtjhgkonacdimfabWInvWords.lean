-- words that the kit's printer laid for this seat, cut down by a program of this session's to what this claim names
import Derived.Test.YtjhgkonacdimfabWInv
import Derived.Test.YtjhgkonacdimfabWFootNe
namespace Go.Proofs.YtjhgkonacdimfabW.PrintWords
open Go.RowKit
end Go.Proofs.YtjhgkonacdimfabW.PrintWords
namespace Go.Proofs.YtjhgkonacdimfabW.PrintLast
section
variable {ops : Array Oper} {a : Act} {o og : Oper} {g : Nat} {t : Tmp} {u : Bool}
end
end Go.Proofs.YtjhgkonacdimfabW.PrintLast
