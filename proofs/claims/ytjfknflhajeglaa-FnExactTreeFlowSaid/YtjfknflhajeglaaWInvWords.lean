-- words that the kit's printer laid for this seat, cut down by a program of this session's to what this claim names
import Derived.Test.YtjfknflhajeglaaWInv
import Derived.Test.YtjfknflhajeglaaWFootNe
namespace Go.Proofs.YtjfknflhajeglaaW.PrintWords
open Go.RowKit
end Go.Proofs.YtjfknflhajeglaaW.PrintWords
namespace Go.Proofs.YtjfknflhajeglaaW.PrintLast
section
variable {ops : Array Oper} {a : Act} {o og : Oper} {g : Nat} {t : Tmp} {u : Bool}
end
end Go.Proofs.YtjfknflhajeglaaW.PrintLast
