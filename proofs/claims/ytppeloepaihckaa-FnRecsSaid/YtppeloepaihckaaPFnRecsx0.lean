-- laid by seedprint.py, a program of this session, over contracts that it gives by hand; Lean checks it
-- dented
import Derived.Test.YtppeloepaihckaaProg
import Derived.Below
import Derived.Deep.Draws
import Derived.Deep.AppendLies
import Derived.Maps.AppendAt
import Derived.OwnWalk
import Derived.Laws.BytesArg
import Derived.Laws.MakeOwn
import Derived.Laws.OwnMore
import Derived.Deep.OwnRows
import Derived.Tactics
import Derived.Lib.ConvBytes
import Derived.Laws.Slices
import Derived.WalkKit
import Derived.KernelRfl
import Derived.RowKit3
import Derived.Deep.LoopGhost
import Derived.Deep.QuietTactic
import Derived.BigQuiet
import Derived.WideLaws
import Derived.Deep.DeepCutAuto
import Derived.Deep.CutBlock
import Derived.Deep.RegionHeld3
import Derived.Laws.Rows
import Derived.Lib.AppendStr
import Derived.ArgAppend
import Derived.Laws.IdiomCopy
import Derived.OrdersHeld
import Derived.Laws.BitsLemmas
import Derived.RowKit
import Derived.Test.YtppeloepaihckaaWWords
import Derived.Test.YtppeloepaihckaaWLast
import Derived.Test.YtppeloepaihckaaWTab
import Derived.Test.YtppeloepaihckaaWFour
import Derived.Test.YtppeloepaihckaaWQPut
import Derived.Test.YtppeloepaihckaaWApart
import Derived.Test.YtppeloepaihckaaWArr
import Derived.Test.YtppeloepaihckaaWZeros
import Derived.Test.YtppeloepaihckaaWFoot
import Derived.Test.YtppeloepaihckaaWKept
import Derived.Test.YtppeloepaihckaaWShare
import Derived.Test.YtppeloepaihckaaWN
import Derived.Test.YtppeloepaihckaaWFootNe
import Derived.Test.YtppeloepaihckaaWAt
import Derived.Test.YtppeloepaihckaaWEqStruct
import Derived.Test.YtppeloepaihckaaWRepsOne
import Derived.Test.YtppeloepaihckaaWInv
import Derived.Test.YtppeloepaihckaaWInvWords
import Derived.Test.YtppeloepaihckaaWGuard
import Derived.Test.YtppeloepaihckaaWNEv
import Derived.Test.YtppeloepaihckaaWMore
namespace Go.Proofs.Ytppeloepaihckaa.PFnRecs
open Go.RowKit Go.Proofs.YtppeloepaihckaaW.PrintWords Go.Proofs.YtppeloepaihckaaW.PrintLast Go.Proofs.YtppeloepaihckaaW.PrintMore
attribute [local go_sem] max2_int min2_int max_two min_two max_three min_three max_four min_four   -- for this text's walks alone
set_option linter.unusedVariables false
set_option linter.unusedSimpArgs false



def errW : Option Int → Value
 | none => .nilIface
 | some c => .iface 0 (.int .i64 c)
theorem errW_none : errW none = .nilIface := rfl
theorem errW_some (c : Int) : errW (some c) = .iface 0 (.int .i64 c) := rfl

theorem info5 : (Try.prog.info? 5).map (fun i => (i.zero, i.size, i.bytes)) = some (some (.int .u8 0), 1, 1) := by kernel_rfl
theorem info9 : (Try.prog.info? 9).map (fun i => (i.zero, i.size, i.bytes)) = some (some (.string ⟨#[]⟩), 1, 16) := by kernel_rfl
-- the values' own types

end Go.Proofs.Ytppeloepaihckaa.PFnRecs
