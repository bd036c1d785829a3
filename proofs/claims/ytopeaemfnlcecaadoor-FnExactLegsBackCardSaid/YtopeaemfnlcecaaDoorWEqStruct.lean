-- the print's words, those that this seat's texts name; cut by a program of this session (shake.py)
import Derived.Test.YtopeaemfnlcecaaDoorWWords
import Derived.Laws.StructEq
/-! ### 53. '==' of structs as_ one Bool -/
namespace Go.Proofs.YtopeaemfnlcecaaDoorW.PrintWords
open Go.RowKit
section
variable {P : Program} {d : Nat} {xs ys : Array Value} {f : Field} {fs : List Field} {a b : Value} {r s : Bool} {w : World}
end
end Go.Proofs.YtopeaemfnlcecaaDoorW.PrintWords
