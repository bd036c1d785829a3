-- the print's words, those that this seat's texts name; cut by a program of this session (shake.py)
import Derived.Test.YtlhefhcdlgkngaaDoorWInv
import Derived.Test.YtlhefhcdlgkngaaDoorWFootNe
namespace Go.Proofs.YtlhefhcdlgkngaaDoorW.PrintWords
open Go.RowKit
end Go.Proofs.YtlhefhcdlgkngaaDoorW.PrintWords
namespace Go.Proofs.YtlhefhcdlgkngaaDoorW.PrintLast
section
variable {ops : Array Oper} {a : Act} {o og : Oper} {g : Nat} {t : Tmp} {u : Bool}
end
end Go.Proofs.YtlhefhcdlgkngaaDoorW.PrintLast
