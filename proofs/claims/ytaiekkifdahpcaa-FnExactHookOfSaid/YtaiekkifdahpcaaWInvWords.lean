-- the print's words, those that this seat's texts name; cut by a program of this session (shake.py)
import Derived.Test.YtaiekkifdahpcaaWInv
import Derived.Test.YtaiekkifdahpcaaWFootNe
namespace Go.Proofs.YtaiekkifdahpcaaW.PrintWords
open Go.RowKit
end Go.Proofs.YtaiekkifdahpcaaW.PrintWords
namespace Go.Proofs.YtaiekkifdahpcaaW.PrintLast
section
variable {ops : Array Oper} {a : Act} {o og : Oper} {g : Nat} {t : Tmp} {u : Bool}
end
end Go.Proofs.YtaiekkifdahpcaaW.PrintLast
