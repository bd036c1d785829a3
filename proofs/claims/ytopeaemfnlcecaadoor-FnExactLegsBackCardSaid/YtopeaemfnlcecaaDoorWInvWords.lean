-- the print's words, those that this seat's texts name; cut by a program of this session (shake.py)
import Derived.Test.YtopeaemfnlcecaaDoorWInv
import Derived.Test.YtopeaemfnlcecaaDoorWFootNe
namespace Go.Proofs.YtopeaemfnlcecaaDoorW.PrintWords
open Go.RowKit
end Go.Proofs.YtopeaemfnlcecaaDoorW.PrintWords
namespace Go.Proofs.YtopeaemfnlcecaaDoorW.PrintLast
section
variable {ops : Array Oper} {a : Act} {o og : Oper} {g : Nat} {t : Tmp} {u : Bool}
end
end Go.Proofs.YtopeaemfnlcecaaDoorW.PrintLast
