-- laid by seedprint.py, a program of this session, over contracts that it gives by hand; Lean checks it
import Derived.Test.YthecbcflpadinaaProg
import Derived.Below
import Derived.Deep.Draws
import Derived.Deep.AppendLies
import Derived.Maps.AppendAt
import Derived.OwnWalk
import Derived.Laws.BytesArg
import Derived.Laws.MakeOwn
import Derived.Laws.OwnMore
import Derived.Deep.OwnRows
import Derived.Tactics
import Derived.Lib.ConvBytes
import Derived.Laws.Slices
import Derived.WalkKit
import Derived.KernelRfl
import Derived.RowKit3
import Derived.Deep.LoopGhost
import Derived.Deep.QuietTactic
import Derived.BigQuiet
import Derived.WideLaws
import Derived.Deep.DeepCutAuto
import Derived.Deep.CutBlock
import Derived.Deep.RegionHeld3
import Derived.Laws.Rows
import Derived.Lib.AppendStr
import Derived.ArgAppend
import Derived.Laws.IdiomCopy
import Derived.OrdersHeld
import Derived.Laws.BitsLemmas
import Derived.RowKit
import Derived.Test.YthecbcflpadinaaWWords
import Derived.Test.YthecbcflpadinaaWLast
import Derived.Test.YthecbcflpadinaaWTab
import Derived.Test.YthecbcflpadinaaWFour
import Derived.Test.YthecbcflpadinaaWQPut
import Derived.Test.YthecbcflpadinaaWApart
import Derived.Test.YthecbcflpadinaaWArr
import Derived.Test.YthecbcflpadinaaWZeros
import Derived.Test.YthecbcflpadinaaWFoot
import Derived.Test.YthecbcflpadinaaWKept
import Derived.Test.YthecbcflpadinaaWShare
import Derived.Test.YthecbcflpadinaaWN
import Derived.Test.YthecbcflpadinaaWFootNe
import Derived.Test.YthecbcflpadinaaWAt
import Derived.Test.YthecbcflpadinaaWEqStruct
import Derived.Test.YthecbcflpadinaaWRepsOne
import Derived.Test.YthecbcflpadinaaWInv
import Derived.Test.YthecbcflpadinaaWInvWords
import Derived.Test.YthecbcflpadinaaWGuard
import Derived.Test.YthecbcflpadinaaWNEv
import Derived.Test.YthecbcflpadinaaWMore
namespace Go.Proofs.Ythecbcflpadinaa.PFnInterest
open Go.RowKit Go.Proofs.YthecbcflpadinaaW.PrintWords Go.Proofs.YthecbcflpadinaaW.PrintLast Go.Proofs.YthecbcflpadinaaW.PrintMore
attribute [local go_sem] max2_int min2_int max_two min_two max_three min_three max_four min_four   -- for this text's walks alone
set_option linter.unusedVariables false
set_option linter.unusedSimpArgs false



def errW : Option Int → Value
  | none => .nilIface
  | some c => .iface 0 (.int .i64 c)
theorem errW_none : errW none = .nilIface := rfl
theorem errW_some (c : Int) : errW (some c) = .iface 0 (.int .i64 c) := rfl

theorem info2 : (Try.prog.info? 2).map (fun i => (i.zero, i.size, i.bytes)) = some (some (.int .i64 0), 1, 8) := by kernel_rfl
-- the values' own types

end Go.Proofs.Ythecbcflpadinaa.PFnInterest
