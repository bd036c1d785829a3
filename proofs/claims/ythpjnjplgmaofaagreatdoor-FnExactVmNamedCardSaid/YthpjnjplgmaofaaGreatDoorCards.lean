/-
  DERIVED. GIVEN WITH THE SEED: THE CARDS: each row of YthpjnjplgmaofaaGreatDoorRows.lean that lists a variable, with what it lists TIED to the program's text (the seventh form; the later family's looks); each row that meets fmt, with fmt's text TOLD by the authors' own Lean function (tested against real Go, not proved from fmt's source: count such statements apart). THE CARD IS WHAT COUNTS. Prove the row's statement (the work); the ties are given (YthpjnjplgmaofaaGreatDoorTie.lean); close each card by the builder's one call (the guide's Derived/Test/ToyasCard.lean, 'card_holds'). Laid BY PROGRAM, IN A SANDBOX (cutbox-door.mjs). By AI agents, Wed Nov 11 2026. No macro, syntax, notation, axiom, sorry.
-/
import Derived.Test.YthpjnjplgmaofaaGreatDoorRows
import GoSem.ClaimSeven
namespace Go.Proofs.YthpjnjplgmaofaaGreatDoor
namespace Rows

/-- THE TIED CARD OF 'laws.FnExactVmNamed'. -/
def fnExactVmNamedCard : Claim7 := { stood := { row := fnExactVmNamedRow, standIns := [], harness := (true, "e6ce24081f6ea36487cb4fe7f082b906fb8784de3351b0cfdb3fa6d9fe80220a"), looks := false }, kinds := [], alts := [], laidByText := true, laidKinds := [.data, .pinned], laidTests := true, laidLooks := .later }
def FnExactVmNamedCardSaid : Prop := Claim7.holds Tryz.pinned (.plain (OpenSpec.ofChange fnExactVmNamedSpec)) fnExactVmNamedCard

/-- THE SECOND FORM's CARD OF 'laws.FnExactVmNamed'. -/
def fnExactVmNamedUptoCard : Claim7 := { stood := { row := fnExactVmNamedUptoRow, standIns := [], harness := (true, "e6ce24081f6ea36487cb4fe7f082b906fb8784de3351b0cfdb3fa6d9fe80220a"), looks := false }, kinds := [], alts := [], laidByText := true, laidKinds := [.data, .pinned], laidTests := true, laidLooks := .later }
def FnExactVmNamedUptoCardSaid : Prop := Claim7.holds Tryz.pinned (.plain (OpenSpec.upto fnExactVmNamedSpec)) fnExactVmNamedUptoCard
end Rows
end Go.Proofs.YthpjnjplgmaofaaGreatDoor
