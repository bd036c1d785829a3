-- the print's words, those that this seat's texts name; cut by a program of this session (shake.py)
import Derived.Test.YtabmljlpmnlbpaaDoorWLast
import Derived.Test.YtabmljlpmnlbpaaDoorWWords
/-! ### 50. A region's order in a table, made once a region: each step asks the table (numbers alone), not the operations -/
namespace Go.Proofs.YtabmljlpmnlbpaaDoorW.PrintLast
open Go.Proofs.YtabmljlpmnlbpaaDoorW.PrintWords (Aside0)
section
variable {md : Region.Mode} {ops : Array Oper} {T : Bool × List (List Nat × List Nat)} {l l' li lj lk : Array Bool} {ds : List Nat} {i j k : Nat}
end
end Go.Proofs.YtabmljlpmnlbpaaDoorW.PrintLast
