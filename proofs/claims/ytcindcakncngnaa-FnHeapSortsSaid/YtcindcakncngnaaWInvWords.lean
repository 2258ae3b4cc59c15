-- words that the kit's printer laid for this seat, cut down by a program of this session's to what this claim names
import Derived.Test.YtcindcakncngnaaWInv
import Derived.Test.YtcindcakncngnaaWFootNe
namespace Go.Proofs.YtcindcakncngnaaW.PrintWords
open Go.RowKit
end Go.Proofs.YtcindcakncngnaaW.PrintWords
namespace Go.Proofs.YtcindcakncngnaaW.PrintLast
section
variable {ops : Array Oper} {a : Act} {o og : Oper} {g : Nat} {t : Tmp} {u : Bool}
end
end Go.Proofs.YtcindcakncngnaaW.PrintLast
