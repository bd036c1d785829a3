-- the print's words, those that this seat's texts name; cut by a program of this session (shake.py)
import Derived.Test.YtodokfmmnihecaaDoorWInv
import Derived.Test.YtodokfmmnihecaaDoorWFootNe
namespace Go.Proofs.YtodokfmmnihecaaDoorW.PrintWords
open Go.RowKit
end Go.Proofs.YtodokfmmnihecaaDoorW.PrintWords
namespace Go.Proofs.YtodokfmmnihecaaDoorW.PrintLast
section
variable {ops : Array Oper} {a : Act} {o og : Oper} {g : Nat} {t : Tmp} {u : Bool}
end
end Go.Proofs.YtodokfmmnihecaaDoorW.PrintLast
