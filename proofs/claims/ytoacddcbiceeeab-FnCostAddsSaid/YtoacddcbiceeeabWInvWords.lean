-- words that the kit's printer laid for this seat, cut down by a program of this session's to what this claim names
import Derived.Test.YtoacddcbiceeeabWInv
import Derived.Test.YtoacddcbiceeeabWFootNe
namespace Go.Proofs.YtoacddcbiceeeabW.PrintWords
open Go.RowKit
end Go.Proofs.YtoacddcbiceeeabW.PrintWords
namespace Go.Proofs.YtoacddcbiceeeabW.PrintLast
section
variable {ops : Array Oper} {a : Act} {o og : Oper} {g : Nat} {t : Tmp} {u : Bool}
end
end Go.Proofs.YtoacddcbiceeeabW.PrintLast
