/- What every call of these laws finds in the library's table of the powers of ten, and that it stays so where nothing that lay there is turned. -/
import Derived.Test.YtabmljlpmnlbpaaDoorShelf
import Derived.Test.YtabmljlpmnlbpaaDoorWWords
import Derived.Lib.AppendIntMem
import Derived.Lib.LaidTab
import Derived.Stop.LaidErr
namespace Go.Proofs.YtabmljlpmnlbpaaDoor
open Go.RowKit Go.Proofs.YtabmljlpmnlbpaaDoorW.PrintWords
def Sh (W : World) : Prop := Lib.TabIs Tryd.prog W "internal/strconv.uint64pow10" .u64 Lib.pow10Tab
theorem Sh.below {w W : World} (h : Sh w) (hb : Below w.heap.size w W) : Sh W := Lib.tabBelow_of_tabIs h W hb
theorem Sh.of {W : World} {x y : String × DataW Unit} {rest : List (String × DataW Unit)} (h : laidMet Tryd.prog (x :: y :: ("internal/strconv.uint64pow10", Lib.tabData .u64 Lib.pow10Tab) :: rest) W) (_ : W.ShapedOpen Tryd.prog) : Sh W :=
  Lib.tabIs_of_head (g := 0) (t := 203) (e := 147) (n := 20) (by kernel_rfl) (by kernel_rfl) Tryd.underlying203 Tryd.underlying147 (by kernel_rfl) (by kernel_rfl) h.tail.tail
end Go.Proofs.YtabmljlpmnlbpaaDoor
