-- laid by seedprint.py, a program of this session, over contracts that it gives by hand; Lean checks it
import Derived.Test.YtabmljlpmnlbpaaDoorProg
import Derived.Below
import Derived.Deep.Draws
import Derived.Deep.AppendLies
import Derived.Maps.AppendAt
import Derived.OwnWalk
import Derived.Laws.BytesArg
import Derived.Laws.MakeOwn
import Derived.Laws.OwnMore
import Derived.Deep.OwnRows
import Derived.Tactics
import Derived.Lib.ConvBytes
import Derived.Laws.Slices
import Derived.WalkKit
import Derived.KernelRfl
import Derived.RowKit3
import Derived.Deep.LoopGhost
import Derived.Deep.QuietTactic
import Derived.BigQuiet
import Derived.WideLaws
import Derived.Deep.DeepCutAuto
import Derived.Deep.CutBlock
import Derived.Deep.RegionHeld3
import Derived.Laws.Rows
import Derived.Lib.AppendStr
import Derived.ArgAppend
import Derived.Laws.IdiomCopy
import Derived.OrdersHeld
import Derived.Laws.BitsLemmas
import Derived.RowKit
import Derived.Test.YtabmljlpmnlbpaaDoorShelf
import Derived.Test.YtabmljlpmnlbpaaDoorShRead
import Derived.Test.YtabmljlpmnlbpaaDoorWWords
import Derived.Test.YtabmljlpmnlbpaaDoorWLast
import Derived.Test.YtabmljlpmnlbpaaDoorWTab
import Derived.Test.YtabmljlpmnlbpaaDoorWFour
import Derived.Test.YtabmljlpmnlbpaaDoorWQPut
import Derived.Test.YtabmljlpmnlbpaaDoorWApart
import Derived.Test.YtabmljlpmnlbpaaDoorWArr
import Derived.Test.YtabmljlpmnlbpaaDoorWZeros
import Derived.Test.YtabmljlpmnlbpaaDoorWFoot
import Derived.Test.YtabmljlpmnlbpaaDoorWKept
import Derived.Test.YtabmljlpmnlbpaaDoorWShare
import Derived.Test.YtabmljlpmnlbpaaDoorWN
import Derived.Test.YtabmljlpmnlbpaaDoorWFootNe
import Derived.Test.YtabmljlpmnlbpaaDoorWAt
import Derived.Test.YtabmljlpmnlbpaaDoorWEqStruct
import Derived.Test.YtabmljlpmnlbpaaDoorWRepsOne
import Derived.Test.YtabmljlpmnlbpaaDoorWInv
import Derived.Test.YtabmljlpmnlbpaaDoorWInvWords
import Derived.Test.YtabmljlpmnlbpaaDoorWGuard
import Derived.Test.YtabmljlpmnlbpaaDoorWNEv
import Derived.Test.YtabmljlpmnlbpaaDoorWMore
namespace Go.Proofs.YtabmljlpmnlbpaaDoor.PFnMoney
open Go.RowKit Go.Proofs.YtabmljlpmnlbpaaDoorW.PrintWords Go.Proofs.YtabmljlpmnlbpaaDoorW.PrintLast Go.Proofs.YtabmljlpmnlbpaaDoorW.PrintMore
attribute [local go_sem] max2_int min2_int max_two min_two max_three min_three max_four min_four   -- for this text's walks alone
set_option linter.unusedVariables false
set_option linter.unusedSimpArgs false



def errW : Option Int → Value
  | none => .nilIface
  | some c => .iface 0 (.int .i64 c)
theorem errW_none : errW none = .nilIface := rfl
theorem errW_some (c : Int) : errW (some c) = .iface 0 (.int .i64 c) := rfl

theorem info2 : (Tryd.prog.info? 2).map (fun i => (i.zero, i.size, i.bytes)) = some (some (.int .i64 0), 1, 8) := by kernel_rfl
theorem info5 : (Tryd.prog.info? 5).map (fun i => (i.zero, i.size, i.bytes)) = some (some (.int .u8 0), 1, 1) := by kernel_rfl
-- the values' own types

end Go.Proofs.YtabmljlpmnlbpaaDoor.PFnMoney
