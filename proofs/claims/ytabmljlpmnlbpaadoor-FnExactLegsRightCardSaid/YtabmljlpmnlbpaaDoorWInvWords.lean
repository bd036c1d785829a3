-- the print's words, those that this seat's texts name; cut by a program of this session (shake.py)
import Derived.Test.YtabmljlpmnlbpaaDoorWInv
import Derived.Test.YtabmljlpmnlbpaaDoorWFootNe
namespace Go.Proofs.YtabmljlpmnlbpaaDoorW.PrintWords
open Go.RowKit
end Go.Proofs.YtabmljlpmnlbpaaDoorW.PrintWords
namespace Go.Proofs.YtabmljlpmnlbpaaDoorW.PrintLast
section
variable {ops : Array Oper} {a : Act} {o og : Oper} {g : Nat} {t : Tmp} {u : Bool}
end
end Go.Proofs.YtabmljlpmnlbpaaDoorW.PrintLast
