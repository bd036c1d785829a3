/-
  DERIVED. GIVEN WITH THE SEED: THE CARDS: each row of YtabmljlpmnlbpaaDoorRows.lean that lists a variable, with what it lists TIED to the program's text (the seventh form; the later family's looks); each row that meets fmt, with fmt's text TOLD by the authors' own Lean function (tested against real Go, not proved from fmt's source: count such statements apart). THE CARD IS WHAT COUNTS. Prove the row's statement (the work); the ties are given (YtabmljlpmnlbpaaDoorTie.lean); close each card by the builder's one call (the guide's Derived/Test/ToyasCard.lean, 'card_holds'). Laid BY PROGRAM, IN A SANDBOX (cutbox-door.mjs). By AI agents, Wed Nov 11 2026. No macro, syntax, notation, axiom, sorry.
-/
import Derived.Test.YtabmljlpmnlbpaaDoorRows
import GoSem.ClaimSeven
namespace Go.Proofs.YtabmljlpmnlbpaaDoor
namespace Rows

/-- THE TIED CARD OF 'laws.FnExactNameRight'. -/
def fnExactNameRightCard : Claim7 := { stood := { row := fnExactNameRightRow, standIns := [], harness := (true, "255205d595100641aa3e5aea5177d4b1fc2861e5474459051440b9d9241cdf44"), looks := true }, kinds := [], alts := [], laidByText := true, laidKinds := [.data, .pinned], laidTests := true, laidLooks := .later }
def FnExactNameRightCardSaid : Prop := Claim7.holds Tryd.pinned (.plain (OpenSpec.ofChange fnExactNameRightSpec)) fnExactNameRightCard

/-- THE TIED CARD OF 'laws.FnExactRateText'. -/
def fnExactRateTextCard : Claim7 := { stood := { row := fnExactRateTextRow, standIns := [], harness := (true, "255205d595100641aa3e5aea5177d4b1fc2861e5474459051440b9d9241cdf44"), looks := true }, kinds := [], alts := [], laidByText := true, laidKinds := [.data, .data, .data], laidTests := true, laidLooks := .later }
def FnExactRateTextCardSaid : Prop := Claim7.holds Tryd.pinned (.plain (OpenSpec.ofChange fnExactRateTextSpec)) fnExactRateTextCard

/-- THE TIED CARD OF 'laws.FnExactLegsRight'. -/
def fnExactLegsRightCard : Claim7 := { stood := { row := fnExactLegsRightRow, standIns := [], harness := (true, "255205d595100641aa3e5aea5177d4b1fc2861e5474459051440b9d9241cdf44"), looks := true }, kinds := [], alts := [], laidByText := true, laidKinds := [.data, .pinned], laidTests := true, laidLooks := .later }
def FnExactLegsRightCardSaid : Prop := Claim7.holds Tryd.pinned (.plain (OpenSpec.ofChange fnExactLegsRightSpec)) fnExactLegsRightCard

/-- THE TIED CARD OF 'laws.FnExactMoneyText'. -/
def fnExactMoneyTextCard : Claim7 := { stood := { row := fnExactMoneyTextRow, standIns := [], harness := (true, "255205d595100641aa3e5aea5177d4b1fc2861e5474459051440b9d9241cdf44"), looks := true }, kinds := [], alts := [], laidByText := true, laidKinds := [.data, .data, .data], laidTests := true, laidLooks := .later }
def FnExactMoneyTextCardSaid : Prop := Claim7.holds Tryd.pinned (.plain (OpenSpec.ofChange fnExactMoneyTextSpec)) fnExactMoneyTextCard

/-- THE TIED CARD OF 'laws.FnExactDateText'. -/
def fnExactDateTextCard : Claim7 := { stood := { row := fnExactDateTextRow, standIns := [], harness := (true, "255205d595100641aa3e5aea5177d4b1fc2861e5474459051440b9d9241cdf44"), looks := true }, kinds := [], alts := [], laidByText := true, laidKinds := [.data, .data, .data], laidTests := true, laidLooks := .later }
def FnExactDateTextCardSaid : Prop := Claim7.holds Tryd.pinned (.plain (OpenSpec.ofChange fnExactDateTextSpec)) fnExactDateTextCard

/-- THE TIED CARD OF 'laws.FnExactLegsBack'. -/
def fnExactLegsBackCard : Claim7 := { stood := { row := fnExactLegsBackRow, standIns := [], harness := (true, "255205d595100641aa3e5aea5177d4b1fc2861e5474459051440b9d9241cdf44"), looks := true }, kinds := [], alts := [], laidByText := true, laidKinds := [.data, .pinned], laidTests := true, laidLooks := .later }
def FnExactLegsBackCardSaid : Prop := Claim7.holds Tryd.pinned (.plain (OpenSpec.ofChange fnExactLegsBackSpec)) fnExactLegsBackCard

/-- THE TIED CARD OF 'laws.FnExactBookRight'. -/
def fnExactBookRightCard : Claim7 := { stood := { row := fnExactBookRightRow, standIns := [], harness := (true, "255205d595100641aa3e5aea5177d4b1fc2861e5474459051440b9d9241cdf44"), looks := true }, kinds := [], alts := [], laidByText := true, laidKinds := [.data, .pinned], laidTests := true, laidLooks := .later }
def FnExactBookRightCardSaid : Prop := Claim7.holds Tryd.pinned (.plain (OpenSpec.ofChange fnExactBookRightSpec)) fnExactBookRightCard

/-- THE TIED CARD OF 'laws.FnExactBookBalance'. -/
def fnExactBookBalanceCard : Claim7 := { stood := { row := fnExactBookBalanceRow, standIns := [], harness := (true, "255205d595100641aa3e5aea5177d4b1fc2861e5474459051440b9d9241cdf44"), looks := true }, kinds := [], alts := [], laidByText := true, laidKinds := [.data, .pinned], laidTests := true, laidLooks := .later }
def FnExactBookBalanceCardSaid : Prop := Claim7.holds Tryd.pinned (.plain (OpenSpec.ofChange fnExactBookBalanceSpec)) fnExactBookBalanceCard

/-- THE TIED CARD OF 'laws.FnExactRateRead'. -/
def fnExactRateReadCard : Claim7 := { stood := { row := fnExactRateReadRow, standIns := [], harness := (true, "255205d595100641aa3e5aea5177d4b1fc2861e5474459051440b9d9241cdf44"), looks := true }, kinds := [], alts := [], laidByText := true, laidKinds := [.data, .data, .data, .sentinel, .sentinel], laidTests := true, laidLooks := .later }
def FnExactRateReadCardSaid : Prop := Claim7.holds Tryd.pinned (.plain (OpenSpec.ofChange fnExactRateReadSpec)) fnExactRateReadCard

/-- THE TIED CARD OF 'laws.FnExactMoneyRead'. -/
def fnExactMoneyReadCard : Claim7 := { stood := { row := fnExactMoneyReadRow, standIns := [], harness := (true, "255205d595100641aa3e5aea5177d4b1fc2861e5474459051440b9d9241cdf44"), looks := true }, kinds := [], alts := [], laidByText := true, laidKinds := [.data, .data, .data, .sentinel, .sentinel], laidTests := true, laidLooks := .later }
def FnExactMoneyReadCardSaid : Prop := Claim7.holds Tryd.pinned (.plain (OpenSpec.ofChange fnExactMoneyReadSpec)) fnExactMoneyReadCard

/-- THE TIED CARD OF 'laws.FnMoney'. -/
def fnMoneyCard : Claim7 := { stood := { row := fnMoneyRow, standIns := [], harness := (true, "255205d595100641aa3e5aea5177d4b1fc2861e5474459051440b9d9241cdf44"), looks := true }, kinds := [], alts := [], laidByText := true, laidKinds := [.data, .data, .data, .sentinel, .sentinel], laidTests := true, laidLooks := .later }
def FnMoneyCardSaid : Prop := Claim7.holds Tryd.pinned (.plain (OpenSpec.ofChange fnMoneySpec)) fnMoneyCard

/-- THE TIED CARD OF 'laws.FnExactNodesRight'. -/
def fnExactNodesRightCard : Claim7 := { stood := { row := fnExactNodesRightRow, standIns := [], harness := (true, "255205d595100641aa3e5aea5177d4b1fc2861e5474459051440b9d9241cdf44"), looks := true }, kinds := [], alts := [], laidByText := true, laidKinds := [.data, .pinned], laidTests := true, laidLooks := .later }
def FnExactNodesRightCardSaid : Prop := Claim7.holds Tryd.pinned (.plain (OpenSpec.ofChange fnExactNodesRightSpec)) fnExactNodesRightCard

/-- THE SECOND FORM's CARD OF 'laws.FnExactNameRight'. -/
def fnExactNameRightUptoCard : Claim7 := { stood := { row := fnExactNameRightUptoRow, standIns := [], harness := (true, "255205d595100641aa3e5aea5177d4b1fc2861e5474459051440b9d9241cdf44"), looks := true }, kinds := [], alts := [], laidByText := true, laidKinds := [.data, .pinned], laidTests := true, laidLooks := .later }
def FnExactNameRightUptoCardSaid : Prop := Claim7.holds Tryd.pinned (.plain (OpenSpec.upto fnExactNameRightSpec)) fnExactNameRightUptoCard

/-- THE SECOND FORM's CARD OF 'laws.FnExactRateText'. -/
def fnExactRateTextUptoCard : Claim7 := { stood := { row := fnExactRateTextUptoRow, standIns := [], harness := (true, "255205d595100641aa3e5aea5177d4b1fc2861e5474459051440b9d9241cdf44"), looks := true }, kinds := [], alts := [], laidByText := true, laidKinds := [.data, .data, .data], laidTests := true, laidLooks := .later }
def FnExactRateTextUptoCardSaid : Prop := Claim7.holds Tryd.pinned (.plain (OpenSpec.upto fnExactRateTextSpec)) fnExactRateTextUptoCard

/-- THE SECOND FORM's CARD OF 'laws.FnExactLegsRight'. -/
def fnExactLegsRightUptoCard : Claim7 := { stood := { row := fnExactLegsRightUptoRow, standIns := [], harness := (true, "255205d595100641aa3e5aea5177d4b1fc2861e5474459051440b9d9241cdf44"), looks := true }, kinds := [], alts := [], laidByText := true, laidKinds := [.data, .pinned], laidTests := true, laidLooks := .later }
def FnExactLegsRightUptoCardSaid : Prop := Claim7.holds Tryd.pinned (.plain (OpenSpec.upto fnExactLegsRightSpec)) fnExactLegsRightUptoCard

/-- THE SECOND FORM's CARD OF 'laws.FnExactMoneyText'. -/
def fnExactMoneyTextUptoCard : Claim7 := { stood := { row := fnExactMoneyTextUptoRow, standIns := [], harness := (true, "255205d595100641aa3e5aea5177d4b1fc2861e5474459051440b9d9241cdf44"), looks := true }, kinds := [], alts := [], laidByText := true, laidKinds := [.data, .data, .data], laidTests := true, laidLooks := .later }
def FnExactMoneyTextUptoCardSaid : Prop := Claim7.holds Tryd.pinned (.plain (OpenSpec.upto fnExactMoneyTextSpec)) fnExactMoneyTextUptoCard

/-- THE SECOND FORM's CARD OF 'laws.FnExactDateText'. -/
def fnExactDateTextUptoCard : Claim7 := { stood := { row := fnExactDateTextUptoRow, standIns := [], harness := (true, "255205d595100641aa3e5aea5177d4b1fc2861e5474459051440b9d9241cdf44"), looks := true }, kinds := [], alts := [], laidByText := true, laidKinds := [.data, .data, .data], laidTests := true, laidLooks := .later }
def FnExactDateTextUptoCardSaid : Prop := Claim7.holds Tryd.pinned (.plain (OpenSpec.upto fnExactDateTextSpec)) fnExactDateTextUptoCard

/-- THE SECOND FORM's CARD OF 'laws.FnExactLegsBack'. -/
def fnExactLegsBackUptoCard : Claim7 := { stood := { row := fnExactLegsBackUptoRow, standIns := [], harness := (true, "255205d595100641aa3e5aea5177d4b1fc2861e5474459051440b9d9241cdf44"), looks := true }, kinds := [], alts := [], laidByText := true, laidKinds := [.data, .pinned], laidTests := true, laidLooks := .later }
def FnExactLegsBackUptoCardSaid : Prop := Claim7.holds Tryd.pinned (.plain (OpenSpec.upto fnExactLegsBackSpec)) fnExactLegsBackUptoCard

/-- THE SECOND FORM's CARD OF 'laws.FnExactBookRight'. -/
def fnExactBookRightUptoCard : Claim7 := { stood := { row := fnExactBookRightUptoRow, standIns := [], harness := (true, "255205d595100641aa3e5aea5177d4b1fc2861e5474459051440b9d9241cdf44"), looks := true }, kinds := [], alts := [], laidByText := true, laidKinds := [.data, .pinned], laidTests := true, laidLooks := .later }
def FnExactBookRightUptoCardSaid : Prop := Claim7.holds Tryd.pinned (.plain (OpenSpec.upto fnExactBookRightSpec)) fnExactBookRightUptoCard

/-- THE SECOND FORM's CARD OF 'laws.FnExactBookBalance'. -/
def fnExactBookBalanceUptoCard : Claim7 := { stood := { row := fnExactBookBalanceUptoRow, standIns := [], harness := (true, "255205d595100641aa3e5aea5177d4b1fc2861e5474459051440b9d9241cdf44"), looks := true }, kinds := [], alts := [], laidByText := true, laidKinds := [.data, .pinned], laidTests := true, laidLooks := .later }
def FnExactBookBalanceUptoCardSaid : Prop := Claim7.holds Tryd.pinned (.plain (OpenSpec.upto fnExactBookBalanceSpec)) fnExactBookBalanceUptoCard

/-- THE SECOND FORM's CARD OF 'laws.FnExactRateRead'. -/
def fnExactRateReadUptoCard : Claim7 := { stood := { row := fnExactRateReadUptoRow, standIns := [], harness := (true, "255205d595100641aa3e5aea5177d4b1fc2861e5474459051440b9d9241cdf44"), looks := true }, kinds := [], alts := [], laidByText := true, laidKinds := [.data, .data, .data, .sentinel, .sentinel], laidTests := true, laidLooks := .later }
def FnExactRateReadUptoCardSaid : Prop := Claim7.holds Tryd.pinned (.plain (OpenSpec.upto fnExactRateReadSpec)) fnExactRateReadUptoCard

/-- THE SECOND FORM's CARD OF 'laws.FnExactMoneyRead'. -/
def fnExactMoneyReadUptoCard : Claim7 := { stood := { row := fnExactMoneyReadUptoRow, standIns := [], harness := (true, "255205d595100641aa3e5aea5177d4b1fc2861e5474459051440b9d9241cdf44"), looks := true }, kinds := [], alts := [], laidByText := true, laidKinds := [.data, .data, .data, .sentinel, .sentinel], laidTests := true, laidLooks := .later }
def FnExactMoneyReadUptoCardSaid : Prop := Claim7.holds Tryd.pinned (.plain (OpenSpec.upto fnExactMoneyReadSpec)) fnExactMoneyReadUptoCard

/-- THE SECOND FORM's CARD OF 'laws.FnMoney'. -/
def fnMoneyUptoCard : Claim7 := { stood := { row := fnMoneyUptoRow, standIns := [], harness := (true, "255205d595100641aa3e5aea5177d4b1fc2861e5474459051440b9d9241cdf44"), looks := true }, kinds := [], alts := [], laidByText := true, laidKinds := [.data, .data, .data, .sentinel, .sentinel], laidTests := true, laidLooks := .later }
def FnMoneyUptoCardSaid : Prop := Claim7.holds Tryd.pinned (.plain (OpenSpec.upto fnMoneySpec)) fnMoneyUptoCard

/-- THE SECOND FORM's CARD OF 'laws.FnExactNodesRight'. -/
def fnExactNodesRightUptoCard : Claim7 := { stood := { row := fnExactNodesRightUptoRow, standIns := [], harness := (true, "255205d595100641aa3e5aea5177d4b1fc2861e5474459051440b9d9241cdf44"), looks := true }, kinds := [], alts := [], laidByText := true, laidKinds := [.data, .pinned], laidTests := true, laidLooks := .later }
def FnExactNodesRightUptoCardSaid : Prop := Claim7.holds Tryd.pinned (.plain (OpenSpec.upto fnExactNodesRightSpec)) fnExactNodesRightUptoCard
end Rows
end Go.Proofs.YtabmljlpmnlbpaaDoor
