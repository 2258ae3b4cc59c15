-- words that the kit's printer laid for this seat, cut down by a program of this session's to what this claim names
import Derived.Test.YtjfknflhajeglabWInv
import Derived.Test.YtjfknflhajeglabWFootNe
namespace Go.Proofs.YtjfknflhajeglabW.PrintWords
open Go.RowKit
end Go.Proofs.YtjfknflhajeglabW.PrintWords
namespace Go.Proofs.YtjfknflhajeglabW.PrintLast
section
variable {ops : Array Oper} {a : Act} {o og : Oper} {g : Nat} {t : Tmp} {u : Bool}
end
end Go.Proofs.YtjfknflhajeglabW.PrintLast
