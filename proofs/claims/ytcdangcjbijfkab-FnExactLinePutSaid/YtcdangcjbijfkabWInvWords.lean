-- words that the kit's printer laid for this seat, cut down by a program of this session's to what this claim names
import Derived.Test.YtcdangcjbijfkabWInv
import Derived.Test.YtcdangcjbijfkabWFootNe
namespace Go.Proofs.YtcdangcjbijfkabW.PrintWords
open Go.RowKit
end Go.Proofs.YtcdangcjbijfkabW.PrintWords
namespace Go.Proofs.YtcdangcjbijfkabW.PrintLast
section
variable {ops : Array Oper} {a : Act} {o og : Oper} {g : Nat} {t : Tmp} {u : Bool}
end
end Go.Proofs.YtcdangcjbijfkabW.PrintLast
