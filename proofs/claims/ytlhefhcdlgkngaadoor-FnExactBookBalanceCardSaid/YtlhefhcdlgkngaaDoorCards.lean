/-
  DERIVED. GIVEN WITH THE SEED: THE CARDS: each row of YtlhefhcdlgkngaaDoorRows.lean that lists a variable, with what it lists TIED to the program's text (the seventh form; the later family's looks); each row that meets fmt, with fmt's text TOLD by the authors' own Lean function (tested against real Go, not proved from fmt's source: count such statements apart). THE CARD IS WHAT COUNTS. Prove the row's statement (the work); the ties are given (YtlhefhcdlgkngaaDoorTie.lean); close each card by the builder's one call (the guide's Derived/Test/ToyasCard.lean, 'card_holds'). Laid BY PROGRAM, IN A SANDBOX (cutbox-door.mjs). By AI agents, Wed Nov 11 2026. No macro, syntax, notation, axiom, sorry.
-/
import Derived.Test.YtlhefhcdlgkngaaDoorRows
import GoSem.ClaimSeven
namespace Go.Proofs.YtlhefhcdlgkngaaDoor
namespace Rows

/-- THE TIED CARD OF 'laws.FnExactLegsBack'. -/
def fnExactLegsBackCard : Claim7 := { stood := { row := fnExactLegsBackRow, standIns := [], harness := (true, "f1137cd2a09afead2211b5acc2386d1be01c00eddb4371b6ac9d09beba1895dc"), looks := false }, kinds := [], alts := [], laidByText := true, laidKinds := [.data, .pinned], laidTests := true, laidLooks := .later }
def FnExactLegsBackCardSaid : Prop := Claim7.holds Tryd.pinned (.plain (OpenSpec.ofChange fnExactLegsBackSpec)) fnExactLegsBackCard

/-- THE TIED CARD OF 'laws.FnExactBookBalance'. -/
def fnExactBookBalanceCard : Claim7 := { stood := { row := fnExactBookBalanceRow, standIns := [], harness := (true, "f1137cd2a09afead2211b5acc2386d1be01c00eddb4371b6ac9d09beba1895dc"), looks := false }, kinds := [], alts := [], laidByText := true, laidKinds := [.data, .pinned], laidTests := true, laidLooks := .later }
def FnExactBookBalanceCardSaid : Prop := Claim7.holds Tryd.pinned (.plain (OpenSpec.ofChange fnExactBookBalanceSpec)) fnExactBookBalanceCard

/-- THE SECOND FORM's CARD OF 'laws.FnExactLegsBack'. -/
def fnExactLegsBackUptoCard : Claim7 := { stood := { row := fnExactLegsBackUptoRow, standIns := [], harness := (true, "f1137cd2a09afead2211b5acc2386d1be01c00eddb4371b6ac9d09beba1895dc"), looks := false }, kinds := [], alts := [], laidByText := true, laidKinds := [.data, .pinned], laidTests := true, laidLooks := .later }
def FnExactLegsBackUptoCardSaid : Prop := Claim7.holds Tryd.pinned (.plain (OpenSpec.upto fnExactLegsBackSpec)) fnExactLegsBackUptoCard

/-- THE SECOND FORM's CARD OF 'laws.FnExactBookBalance'. -/
def fnExactBookBalanceUptoCard : Claim7 := { stood := { row := fnExactBookBalanceUptoRow, standIns := [], harness := (true, "f1137cd2a09afead2211b5acc2386d1be01c00eddb4371b6ac9d09beba1895dc"), looks := false }, kinds := [], alts := [], laidByText := true, laidKinds := [.data, .pinned], laidTests := true, laidLooks := .later }
def FnExactBookBalanceUptoCardSaid : Prop := Claim7.holds Tryd.pinned (.plain (OpenSpec.upto fnExactBookBalanceSpec)) fnExactBookBalanceUptoCard
end Rows
end Go.Proofs.YtlhefhcdlgkngaaDoor
