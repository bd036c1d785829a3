-- the print's words, those that this seat's texts name; cut by a program of this session (shake.py)
import Derived.Test.YtppeloepaihckaaWInv
import Derived.Test.YtppeloepaihckaaWFootNe
namespace Go.Proofs.YtppeloepaihckaaW.PrintWords
open Go.RowKit
end Go.Proofs.YtppeloepaihckaaW.PrintWords
namespace Go.Proofs.YtppeloepaihckaaW.PrintLast
section
variable {ops : Array Oper} {a : Act} {o og : Oper} {g : Nat} {t : Tmp} {u : Bool}
end
end Go.Proofs.YtppeloepaihckaaW.PrintLast
