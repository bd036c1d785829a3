import Derived.Test.YthpjnjplgmaofaaGreatDoorWInv
import Derived.Test.YthpjnjplgmaofaaGreatDoorWFootNe
namespace Go.Proofs.YthpjnjplgmaofaaGreatDoorW.PrintWords
open Go.RowKit
end Go.Proofs.YthpjnjplgmaofaaGreatDoorW.PrintWords
namespace Go.Proofs.YthpjnjplgmaofaaGreatDoorW.PrintLast
section
variable {ops : Array Oper} {a : Act} {o og : Oper} {g : Nat} {t : Tmp} {u : Bool}
end
end Go.Proofs.YthpjnjplgmaofaaGreatDoorW.PrintLast
