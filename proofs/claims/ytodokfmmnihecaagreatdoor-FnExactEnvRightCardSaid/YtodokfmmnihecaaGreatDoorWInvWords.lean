-- the print's words, those that this seat's texts name; cut by a program of this session (shake.py)
import Derived.Test.YtodokfmmnihecaaGreatDoorWInv
import Derived.Test.YtodokfmmnihecaaGreatDoorWFootNe
namespace Go.Proofs.YtodokfmmnihecaaGreatDoorW.PrintWords
open Go.RowKit
end Go.Proofs.YtodokfmmnihecaaGreatDoorW.PrintWords
namespace Go.Proofs.YtodokfmmnihecaaGreatDoorW.PrintLast
section
variable {ops : Array Oper} {a : Act} {o og : Oper} {g : Nat} {t : Tmp} {u : Bool}
end
end Go.Proofs.YtodokfmmnihecaaGreatDoorW.PrintLast
