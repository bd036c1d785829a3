/-
  DERIVED. GIVEN WITH THE SEED: THE CARDS: each row of YtopeaemfnlcecaaDoorRows.lean that lists a variable, with what it lists TIED to the program's text (the seventh form; the later family's looks); each row that meets fmt, with fmt's text TOLD by the authors' own Lean function (tested against real Go, not proved from fmt's source: count such statements apart). THE CARD IS WHAT COUNTS. Prove the row's statement (the work); the ties are given (YtopeaemfnlcecaaDoorTie.lean); close each card by the builder's one call (the guide's Derived/Test/ToyasCard.lean, 'card_holds'). Laid BY PROGRAM, IN A SANDBOX (cutbox-door.mjs). By AI agents, Wed Nov 11 2026. No macro, syntax, notation, axiom, sorry.
-/
import Derived.Test.YtopeaemfnlcecaaDoorRows
import GoSem.ClaimSeven
namespace Go.Proofs.YtopeaemfnlcecaaDoor
namespace Rows

/-- THE TIED CARD OF 'laws.FnExactLegsBack'. -/
def fnExactLegsBackCard : Claim7 := { stood := { row := fnExactLegsBackRow, standIns := [], harness := (true, "76bcdb93f18b2ca087420ca0c20501f1db5d77d0f67b2c9d23bdf28b804111b7"), looks := false }, kinds := [], alts := [], laidByText := true, laidKinds := [.data, .pinned], laidTests := true, laidLooks := .later }
def FnExactLegsBackCardSaid : Prop := Claim7.holds Tryd.pinned (.plain (OpenSpec.ofChange fnExactLegsBackSpec)) fnExactLegsBackCard

/-- THE SECOND FORM's CARD OF 'laws.FnExactLegsBack'. -/
def fnExactLegsBackUptoCard : Claim7 := { stood := { row := fnExactLegsBackUptoRow, standIns := [], harness := (true, "76bcdb93f18b2ca087420ca0c20501f1db5d77d0f67b2c9d23bdf28b804111b7"), looks := false }, kinds := [], alts := [], laidByText := true, laidKinds := [.data, .pinned], laidTests := true, laidLooks := .later }
def FnExactLegsBackUptoCardSaid : Prop := Claim7.holds Tryd.pinned (.plain (OpenSpec.upto fnExactLegsBackSpec)) fnExactLegsBackUptoCard
end Rows
end Go.Proofs.YtopeaemfnlcecaaDoor
