import Derived.Test.YthpjnjplgmaofaaGreatDoorCards
import Derived.Test.YthpjnjplgmaofaaGreatDoorTie
import Derived.Test.YthpjnjplgmaofaaGreatDoorRows
import Derived.Test.YthpjnjplgmaofaaGreatDoorQOpen
import Derived.WalkKit
import Derived.ProofKit
import Derived.OpenShut
import Derived.ShutString
import Derived.ChangeOld
import Derived.Below
import Derived.SizedLaws
import Derived.HandedShaped
import Derived.Lay
import Derived.LaidLaws
import Derived.LaidOnce
import Derived.SevenTiedAt
import Derived.MakeChecks
namespace Go.Proofs.YthpjnjplgmaofaaGreatDoor.fnExactVmNamed
open Go.ChangeShapes Go.WideShapes Go.ChangeAt Go.RowKit
open Go.ChangeMaps (open_string shut_string)
open Go.Proofs.YthpjnjplgmaofaaGreatDoorW.PrintWords Go.Proofs.YthpjnjplgmaofaaGreatDoorW.PrintLast Go.Proofs.YthpjnjplgmaofaaGreatDoorW.PrintMore
theorem iU {a b : Bool} (x : a = true) (y : b = true) : (a && b) = true := by rw [x, y]; rfl
theorem fact_0 : (Rows.fnExactVmNamedRow.wf (OpenSpec.ofChange Rows.fnExactVmNamedSpec) : Bool) = true := by kernel_rfl
theorem fact_1 : (laidOutB Tryz.pinned.checked.prog : Bool) = true := by kernel_rfl
theorem fact_2 : (mapsRowed Tryz.pinned.checked.prog : Bool) = true := by kernel_rfl
theorem fact_3 : (Tryz.f3.params.all (Tryz.pinned.checked.prog.readableRec ·) : Bool) = true := by kernel_rfl
theorem fact_4 : (namedTie Tryz.pinned.checked.prog Rows.fnExactVmNamedRow.named Rows.fnExactVmNamedSpec.vars : Bool) = true := by kernel_rfl
theorem fact_5 : ((Rows.fnExactVmNamedRow.stops == []) : Bool) = true := by kernel_rfl
theorem fact_6 : ((Tryz.pinned.checked.prog.stops == []) : Bool) = true := by kernel_rfl
theorem fact_7 : ((Rows.fnExactVmNamedRow.knobs == []) : Bool) = true := by kernel_rfl
theorem fact_8 : ((Tryz.pinned.checked.prog.stopKnobs == []) : Bool) = true := by kernel_rfl
theorem fact_9 : ((Rows.fnExactVmNamedRow.inPlace == Tryz.pinned.checked.prog.inPlace 3) : Bool) = true := by kernel_rfl
theorem fact_10 : ((Rows.fnExactVmNamedRow.unfollowed == Tryz.pinned.checked.prog.unfollowed 3) : Bool) = true := by kernel_rfl
theorem fact_11 : ((Rows.fnExactVmNamedRow.recurses == Tryz.pinned.checked.prog.recurses 3) : Bool) = true := by kernel_rfl
theorem fact_12 : ((Rows.fnExactVmNamedRow.named == Tryz.pinned.checked.prog.varsNamed 3) : Bool) = true := by kernel_rfl
theorem fact_13 : ((Rows.fnExactVmNamedRow.maps == (Tryz.f3.params.toList ++ Rows.fnExactVmNamedSpec.plain.varTypes Tryz.pinned.checked.prog).any (Tryz.pinned.checked.prog.mapsRec ·)) : Bool) = true := by kernel_rfl
theorem fact_14 : ((Rows.fnExactVmNamedRow.ifaces == (Tryz.f3.params.toList ++ Rows.fnExactVmNamedSpec.plain.varTypes Tryz.pinned.checked.prog).any (Tryz.pinned.checked.prog.ifacesRec ·)) : Bool) = true := by kernel_rfl
theorem fact_15 : ((Rows.fnExactVmNamedRow.mapsOut == Tryz.pinned.checked.prog.mapsAmong Tryz.f3.resultTypes.toList) : Bool) = true := by kernel_rfl
theorem fact_16 : ((Rows.fnExactVmNamedRow.loops == (Tryz.f3.params.toList ++ Rows.fnExactVmNamedSpec.plain.varTypes Tryz.pinned.checked.prog).any (Tryz.pinned.checked.prog.loopsFrom ·)) : Bool) = true := by kernel_rfl
theorem fact_17 : ((Rows.fnExactVmNamedRow.wideKeys == (Tryz.f3.params.toList ++ Rows.fnExactVmNamedSpec.plain.varTypes Tryz.pinned.checked.prog ++ Tryz.f3.resultTypes.toList).any (Tryz.pinned.checked.prog.wideKeysFrom ·)) : Bool) = true := by kernel_rfl
theorem fact_18 : (Rows.fnExactVmNamedSpec.vars.all (Tryz.pinned.checked.prog.varReadable ·) : Bool) = true := by kernel_rfl
theorem fact_19 : (Tryz.f3.resultTypes.all (fun t => Tryz.pinned.checked.prog.readableRec t && decide (t < Tryz.pinned.checked.prog.types.size)) : Bool) = true := by kernel_rfl
theorem fact_20 : ((Rows.fnExactVmNamedRow.ifacesOut == Tryz.f3.resultTypes.toList.any (Tryz.pinned.checked.prog.ifacesRec ·)) : Bool) = true := by kernel_rfl
theorem fact_21 : ((Rows.fnExactVmNamedRow.loopsOut == Tryz.f3.resultTypes.toList.any (Tryz.pinned.checked.prog.loopsFrom ·)) : Bool) = true := by kernel_rfl
theorem fact_22 : ((Rows.fnExactVmNamedRow.plainKeys == Tryz.pinned.checked.prog.plainKeys) : Bool) = true := by kernel_rfl
theorem fact_23 : (Rows.fnExactVmNamedRow.shortTexts.isNone : Bool) = true := by kernel_rfl
theorem fact_24 : (Tryz.pinned.checked.prog.stopsHeard : Bool) = true := by kernel_rfl
theorem fact_25 : (Tryz.pinned.checked.prog.mayEnter : Bool) = true := by kernel_rfl
theorem fact_26 : ((Rows.fnExactVmNamedRow.lifted == Tryz.pinned.checked.prog.liftsFinal) : Bool) = true := by kernel_rfl
theorem fact_27 : ((Tryz.pinned.checked.prog.make == some Rows.fnExactVmNamedRow.make) : Bool) = true := by kernel_rfl
theorem fact_28 : ((Rows.fnExactVmNamedRow.kinds == (if Rows.fnExactVmNamedRow.domain.isEmpty then [] else Tryz.f3.params.toList.map fun t => match Tryz.pinned.checked.prog.underlying t with | some (.int k) => some k | _ => none)) : Bool) = true := by kernel_rfl
theorem fact_29 : ((Rows.fnExactVmNamedRow.pinned == Rows.fnExactVmNamedRow.pinnedBy) : Bool) = true := by kernel_rfl
theorem fact_30 : ((Rows.fnExactVmNamedRow.veiled == (Tryz.f3.params.toList ++ Rows.fnExactVmNamedSpec.plain.varTypes Tryz.pinned.checked.prog ++ Tryz.f3.resultTypes.toList).any (Tryz.pinned.checked.prog.veiledRec ·)) : Bool) = true := by kernel_rfl
theorem fact_31 : (Rows.fnExactVmNamedRow.veiledFits Tryz.pinned.checked.prog Tryz.f3.params.toList (Tryz.f3.params.toList ++ Rows.fnExactVmNamedSpec.plain.varTypes Tryz.pinned.checked.prog ++ Tryz.f3.resultTypes.toList) : Bool) = true := by kernel_rfl
set_option maxRecDepth 100000 in
set_option maxHeartbeats 4000000 in
theorem closed : joinedFacts Tryz.pinned.checked.prog 3 Tryz.f3 Rows.fnExactVmNamedSpec Rows.fnExactVmNamedRow = true := iU (iU (iU (iU (iU (iU (iU (iU (iU (iU (iU (iU (iU (iU (iU (iU (iU (iU (iU (iU (iU (iU (iU (iU (iU (iU (iU (iU (iU (iU (iU (fact_0) fact_1) fact_2) fact_3) fact_4) fact_5) fact_6) fact_7) fact_8) fact_9) fact_10) fact_11) fact_12) fact_13) fact_14) fact_15) fact_16) fact_17) fact_18) fact_19) fact_20) fact_21) fact_22) fact_23) fact_24) fact_25) fact_26) fact_27) fact_28) fact_29) fact_30) fact_31
end Go.Proofs.YthpjnjplgmaofaaGreatDoor.fnExactVmNamed
