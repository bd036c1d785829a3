/-
  DERIVED. GIVEN WITH THE SEED: THE CARDS: each row of YtodokfmmnihecaaDoorRows.lean that lists a variable, with what it lists TIED to the program's text (the seventh form; the later family's looks); each row that meets fmt, with fmt's text TOLD by the authors' own Lean function (tested against real Go, not proved from fmt's source: count such statements apart). THE CARD IS WHAT COUNTS. Prove the row's statement (the work); the ties are given (YtodokfmmnihecaaDoorTie.lean); close each card by the builder's one call (the guide's Derived/Test/ToyasCard.lean, 'card_holds'). Laid BY PROGRAM, IN A SANDBOX (cutbox-door.mjs). By AI agents, Wed Nov 11 2026. No macro, syntax, notation, axiom, sorry.
-/
import Derived.Test.YtodokfmmnihecaaDoorRows
import GoSem.ClaimSeven
namespace Go.Proofs.YtodokfmmnihecaaDoor
namespace Rows

/-- THE TIED CARD OF 'laws.FnExactNodesRight'. -/
def fnExactNodesRightCard : Claim7 := { stood := { row := fnExactNodesRightRow, standIns := [], harness := (true, "49205bbc75acedce105c8f5d2e1c3e42ca37e817e66d52bdf61ada56ce234116"), looks := false }, kinds := [], alts := [], laidByText := true, laidKinds := [.data, .pinned], laidTests := true, laidLooks := .later }
def FnExactNodesRightCardSaid : Prop := Claim7.holds Tryd.pinned (.plain (OpenSpec.ofChange fnExactNodesRightSpec)) fnExactNodesRightCard

/-- THE SECOND FORM's CARD OF 'laws.FnExactNodesRight'. -/
def fnExactNodesRightUptoCard : Claim7 := { stood := { row := fnExactNodesRightUptoRow, standIns := [], harness := (true, "49205bbc75acedce105c8f5d2e1c3e42ca37e817e66d52bdf61ada56ce234116"), looks := false }, kinds := [], alts := [], laidByText := true, laidKinds := [.data, .pinned], laidTests := true, laidLooks := .later }
def FnExactNodesRightUptoCardSaid : Prop := Claim7.holds Tryd.pinned (.plain (OpenSpec.upto fnExactNodesRightSpec)) fnExactNodesRightUptoCard
end Rows
end Go.Proofs.YtodokfmmnihecaaDoor
