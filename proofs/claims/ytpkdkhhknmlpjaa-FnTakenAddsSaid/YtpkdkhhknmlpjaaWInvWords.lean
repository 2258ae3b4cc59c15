-- words that the kit's printer laid for this seat, cut down by a program of this session's to what this claim names
import Derived.Test.YtpkdkhhknmlpjaaWInv
import Derived.Test.YtpkdkhhknmlpjaaWFootNe
namespace Go.Proofs.YtpkdkhhknmlpjaaW.PrintWords
open Go.RowKit
end Go.Proofs.YtpkdkhhknmlpjaaW.PrintWords
namespace Go.Proofs.YtpkdkhhknmlpjaaW.PrintLast
section
variable {ops : Array Oper} {a : Act} {o og : Oper} {g : Nat} {t : Tmp} {u : Bool}
end
end Go.Proofs.YtpkdkhhknmlpjaaW.PrintLast
