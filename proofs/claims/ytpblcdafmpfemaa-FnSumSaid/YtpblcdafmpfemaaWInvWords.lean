-- the print's words, those that this seat's texts name; cut by a program of this session (shake.py)
import Derived.Test.YtpblcdafmpfemaaWInv
import Derived.Test.YtpblcdafmpfemaaWFootNe
namespace Go.Proofs.YtpblcdafmpfemaaW.PrintWords
open Go.RowKit
end Go.Proofs.YtpblcdafmpfemaaW.PrintWords
namespace Go.Proofs.YtpblcdafmpfemaaW.PrintLast
section
variable {ops : Array Oper} {a : Act} {o og : Oper} {g : Nat} {t : Tmp} {u : Bool}
end
end Go.Proofs.YtpblcdafmpfemaaW.PrintLast
