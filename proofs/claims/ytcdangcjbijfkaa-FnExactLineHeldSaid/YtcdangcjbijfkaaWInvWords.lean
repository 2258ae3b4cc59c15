-- words that the kit's printer laid for this seat, cut down by a program of this session's to what this claim names
import Derived.Test.YtcdangcjbijfkaaWInv
import Derived.Test.YtcdangcjbijfkaaWFootNe
namespace Go.Proofs.YtcdangcjbijfkaaW.PrintWords
open Go.RowKit
end Go.Proofs.YtcdangcjbijfkaaW.PrintWords
namespace Go.Proofs.YtcdangcjbijfkaaW.PrintLast
section
variable {ops : Array Oper} {a : Act} {o og : Oper} {g : Nat} {t : Tmp} {u : Bool}
end
end Go.Proofs.YtcdangcjbijfkaaW.PrintLast
