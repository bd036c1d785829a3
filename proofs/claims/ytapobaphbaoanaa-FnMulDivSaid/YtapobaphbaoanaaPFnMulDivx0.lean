-- laid by seedprint.py, a program of this session, over contracts that it gives by hand; Lean checks it
import Derived.Test.YtapobaphbaoanaaProg
import Derived.Below
import Derived.Deep.Draws
import Derived.Deep.AppendLies
import Derived.Maps.AppendAt
import Derived.OwnWalk
import Derived.Laws.BytesArg
import Derived.Laws.MakeOwn
import Derived.Laws.OwnMore
import Derived.Deep.OwnRows
import Derived.Tactics
import Derived.Lib.ConvBytes
import Derived.Laws.Slices
import Derived.WalkKit
import Derived.KernelRfl
import Derived.RowKit3
import Derived.Deep.LoopGhost
import Derived.Deep.QuietTactic
import Derived.BigQuiet
import Derived.WideLaws
import Derived.Deep.DeepCutAuto
import Derived.Deep.CutBlock
import Derived.Deep.RegionHeld3
import Derived.Laws.Rows
import Derived.Lib.AppendStr
import Derived.ArgAppend
import Derived.Laws.IdiomCopy
import Derived.OrdersHeld
import Derived.Laws.BitsLemmas
import Derived.RowKit
import Derived.Test.YtapobaphbaoanaaWWords
import Derived.Test.YtapobaphbaoanaaWLast
import Derived.Test.YtapobaphbaoanaaWTab
import Derived.Test.YtapobaphbaoanaaWFour
import Derived.Test.YtapobaphbaoanaaWQPut
import Derived.Test.YtapobaphbaoanaaWApart
import Derived.Test.YtapobaphbaoanaaWArr
import Derived.Test.YtapobaphbaoanaaWZeros
import Derived.Test.YtapobaphbaoanaaWFoot
import Derived.Test.YtapobaphbaoanaaWKept
import Derived.Test.YtapobaphbaoanaaWShare
import Derived.Test.YtapobaphbaoanaaWN
import Derived.Test.YtapobaphbaoanaaWFootNe
import Derived.Test.YtapobaphbaoanaaWAt
import Derived.Test.YtapobaphbaoanaaWEqStruct
import Derived.Test.YtapobaphbaoanaaWRepsOne
import Derived.Test.YtapobaphbaoanaaWInv
import Derived.Test.YtapobaphbaoanaaWInvWords
import Derived.Test.YtapobaphbaoanaaWGuard
import Derived.Test.YtapobaphbaoanaaWNEv
import Derived.Test.YtapobaphbaoanaaWMore
namespace Go.Proofs.Ytapobaphbaoanaa.PFnMulDiv
open Go.RowKit Go.Proofs.YtapobaphbaoanaaW.PrintWords Go.Proofs.YtapobaphbaoanaaW.PrintLast Go.Proofs.YtapobaphbaoanaaW.PrintMore
attribute [local go_sem] max2_int min2_int max_two min_two max_three min_three max_four min_four   -- for this text's walks alone
set_option linter.unusedVariables false
set_option linter.unusedSimpArgs false



def errW : Option Int → Value
  | none => .nilIface
  | some c => .iface 0 (.int .i64 c)
theorem errW_none : errW none = .nilIface := rfl
theorem errW_some (c : Int) : errW (some c) = .iface 0 (.int .i64 c) := rfl

theorem info2 : (Try.prog.info? 2).map (fun i => (i.zero, i.size, i.bytes)) = some (some (.int .i64 0), 1, 8) := by kernel_rfl
-- the values' own types

end Go.Proofs.Ytapobaphbaoanaa.PFnMulDiv
