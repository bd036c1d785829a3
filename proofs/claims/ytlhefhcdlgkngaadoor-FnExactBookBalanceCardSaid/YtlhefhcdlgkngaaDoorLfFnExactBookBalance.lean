/- The closed facts of a row, each by itself. -/
import Derived.Test.YtlhefhcdlgkngaaDoorCards
import Derived.Test.YtlhefhcdlgkngaaDoorTie
import Derived.Test.YtlhefhcdlgkngaaDoorRows
import Derived.Test.YtlhefhcdlgkngaaDoorQOpen
import Derived.WalkKit
import Derived.ProofKit
import Derived.OpenShut
import Derived.ShutString
import Derived.ChangeOld
import Derived.Below
import Derived.SizedLaws
import Derived.Lay
import Derived.LaidLaws
import Derived.LaidOnce
import Derived.SevenTiedAt
import Derived.MakeChecks
namespace Go.Proofs.YtlhefhcdlgkngaaDoor.fnExactBookBalance
open Go.ChangeShapes Go.WideShapes Go.ChangeAt Go.RowKit
open Go.ChangeMaps (open_string shut_string)
open Go.Proofs.YtlhefhcdlgkngaaDoorW.PrintWords Go.Proofs.YtlhefhcdlgkngaaDoorW.PrintLast Go.Proofs.YtlhefhcdlgkngaaDoorW.PrintMore
theorem band {a b : Bool} (x : a = true) (y : b = true) : (a && b) = true := by rw [x, y]; rfl
theorem fact_0 : (Rows.fnExactBookBalanceRow.wf (OpenSpec.ofChange Rows.fnExactBookBalanceSpec) : Bool) = true := by kernel_rfl
theorem fact_1 : (laidOutB Tryd.pinned.checked.prog : Bool) = true := by kernel_rfl
theorem fact_2 : (mapsRowed Tryd.pinned.checked.prog : Bool) = true := by kernel_rfl
theorem fact_3 : (Tryd.f4.params.all (Tryd.pinned.checked.prog.readableRec ·) : Bool) = true := by kernel_rfl
theorem fact_4 : (namedTie Tryd.pinned.checked.prog Rows.fnExactBookBalanceRow.named Rows.fnExactBookBalanceSpec.vars : Bool) = true := by kernel_rfl
theorem fact_5 : ((Rows.fnExactBookBalanceRow.stops == []) : Bool) = true := by kernel_rfl
theorem fact_6 : ((Tryd.pinned.checked.prog.stops == []) : Bool) = true := by kernel_rfl
theorem fact_7 : ((Rows.fnExactBookBalanceRow.knobs == []) : Bool) = true := by kernel_rfl
theorem fact_8 : ((Tryd.pinned.checked.prog.stopKnobs == []) : Bool) = true := by kernel_rfl
theorem fact_9 : ((Rows.fnExactBookBalanceRow.inPlace == Tryd.pinned.checked.prog.inPlace 4) : Bool) = true := by kernel_rfl
theorem fact_10 : ((Rows.fnExactBookBalanceRow.unfollowed == Tryd.pinned.checked.prog.unfollowed 4) : Bool) = true := by kernel_rfl
theorem fact_11 : ((Rows.fnExactBookBalanceRow.recurses == Tryd.pinned.checked.prog.recurses 4) : Bool) = true := by kernel_rfl
theorem fact_12 : ((Rows.fnExactBookBalanceRow.named == Tryd.pinned.checked.prog.varsNamed 4) : Bool) = true := by kernel_rfl
theorem fact_13 : ((Rows.fnExactBookBalanceRow.maps == (Tryd.f4.params.toList ++ Rows.fnExactBookBalanceSpec.plain.varTypes Tryd.pinned.checked.prog).any (Tryd.pinned.checked.prog.mapsRec ·)) : Bool) = true := by kernel_rfl
theorem fact_14 : ((Rows.fnExactBookBalanceRow.ifaces == (Tryd.f4.params.toList ++ Rows.fnExactBookBalanceSpec.plain.varTypes Tryd.pinned.checked.prog).any (Tryd.pinned.checked.prog.ifacesRec ·)) : Bool) = true := by kernel_rfl
theorem fact_15 : ((Rows.fnExactBookBalanceRow.mapsOut == Tryd.pinned.checked.prog.mapsAmong Tryd.f4.resultTypes.toList) : Bool) = true := by kernel_rfl
theorem fact_16 : ((Rows.fnExactBookBalanceRow.loops == (Tryd.f4.params.toList ++ Rows.fnExactBookBalanceSpec.plain.varTypes Tryd.pinned.checked.prog).any (Tryd.pinned.checked.prog.loopsFrom ·)) : Bool) = true := by kernel_rfl
theorem fact_17 : ((Rows.fnExactBookBalanceRow.wideKeys == (Tryd.f4.params.toList ++ Rows.fnExactBookBalanceSpec.plain.varTypes Tryd.pinned.checked.prog ++ Tryd.f4.resultTypes.toList).any (Tryd.pinned.checked.prog.wideKeysFrom ·)) : Bool) = true := by kernel_rfl
theorem fact_18 : (Rows.fnExactBookBalanceSpec.vars.all (Tryd.pinned.checked.prog.varReadable ·) : Bool) = true := by kernel_rfl
theorem fact_19 : (Tryd.f4.resultTypes.all (fun t => Tryd.pinned.checked.prog.readableRec t && decide (t < Tryd.pinned.checked.prog.types.size)) : Bool) = true := by kernel_rfl
theorem fact_20 : ((Rows.fnExactBookBalanceRow.ifacesOut == Tryd.f4.resultTypes.toList.any (Tryd.pinned.checked.prog.ifacesRec ·)) : Bool) = true := by kernel_rfl
theorem fact_21 : ((Rows.fnExactBookBalanceRow.loopsOut == Tryd.f4.resultTypes.toList.any (Tryd.pinned.checked.prog.loopsFrom ·)) : Bool) = true := by kernel_rfl
theorem fact_22 : ((Rows.fnExactBookBalanceRow.plainKeys == Tryd.pinned.checked.prog.plainKeys) : Bool) = true := by kernel_rfl
theorem fact_23 : (Rows.fnExactBookBalanceRow.shortTexts.isNone : Bool) = true := by kernel_rfl
theorem fact_24 : (Tryd.pinned.checked.prog.stopsHeard : Bool) = true := by kernel_rfl
theorem fact_25 : (Tryd.pinned.checked.prog.mayEnter : Bool) = true := by kernel_rfl
theorem fact_26 : ((Rows.fnExactBookBalanceRow.lifted == Tryd.pinned.checked.prog.liftsFinal) : Bool) = true := by kernel_rfl
theorem fact_27 : ((Tryd.pinned.checked.prog.make == some Rows.fnExactBookBalanceRow.make) : Bool) = true := by kernel_rfl
theorem fact_28 : ((Rows.fnExactBookBalanceRow.kinds == (if Rows.fnExactBookBalanceRow.domain.isEmpty then [] else Tryd.f4.params.toList.map fun t => match Tryd.pinned.checked.prog.underlying t with | some (.int k) => some k | _ => none)) : Bool) = true := by kernel_rfl
theorem fact_29 : ((Rows.fnExactBookBalanceRow.pinned == Rows.fnExactBookBalanceRow.pinnedBy) : Bool) = true := by kernel_rfl
theorem fact_30 : ((Rows.fnExactBookBalanceRow.veiled == (Tryd.f4.params.toList ++ Rows.fnExactBookBalanceSpec.plain.varTypes Tryd.pinned.checked.prog ++ Tryd.f4.resultTypes.toList).any (Tryd.pinned.checked.prog.veiledRec ·)) : Bool) = true := by kernel_rfl
theorem fact_31 : (Rows.fnExactBookBalanceRow.veiledFits Tryd.pinned.checked.prog Tryd.f4.params.toList (Tryd.f4.params.toList ++ Rows.fnExactBookBalanceSpec.plain.varTypes Tryd.pinned.checked.prog ++ Tryd.f4.resultTypes.toList) : Bool) = true := by kernel_rfl
set_option maxRecDepth 100000 in
set_option maxHeartbeats 4000000 in
theorem closed : joinedFacts Tryd.pinned.checked.prog 4 Tryd.f4 Rows.fnExactBookBalanceSpec Rows.fnExactBookBalanceRow = true := band (band (band (band (band (band (band (band (band (band (band (band (band (band (band (band (band (band (band (band (band (band (band (band (band (band (band (band (band (band (band (fact_0) fact_1) fact_2) fact_3) fact_4) fact_5) fact_6) fact_7) fact_8) fact_9) fact_10) fact_11) fact_12) fact_13) fact_14) fact_15) fact_16) fact_17) fact_18) fact_19) fact_20) fact_21) fact_22) fact_23) fact_24) fact_25) fact_26) fact_27) fact_28) fact_29) fact_30) fact_31
end Go.Proofs.YtlhefhcdlgkngaaDoor.fnExactBookBalance
