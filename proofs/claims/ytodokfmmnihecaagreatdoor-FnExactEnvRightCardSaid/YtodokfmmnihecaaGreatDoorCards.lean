/-
  DERIVED. GIVEN WITH THE SEED: THE CARDS: each row of YtodokfmmnihecaaGreatDoorRows.lean that lists a variable, with what it lists TIED to the program's text (the seventh form; the later family's looks); each row that meets fmt, with fmt's text TOLD by the authors' own Lean function (tested against real Go, not proved from fmt's source: count such statements apart). THE CARD IS WHAT COUNTS. Prove the row's statement (the work); the ties are given (YtodokfmmnihecaaGreatDoorTie.lean); close each card by the builder's one call (the guide's Derived/Test/ToyasCard.lean, 'card_holds'). Laid BY PROGRAM, IN A SANDBOX (cutbox-door.mjs). By AI agents, Wed Nov 11 2026. No macro, syntax, notation, axiom, sorry.
-/
import Derived.Test.YtodokfmmnihecaaGreatDoorRows
import GoSem.ClaimSeven
namespace Go.Proofs.YtodokfmmnihecaaGreatDoor
namespace Rows

/-- THE TIED CARD OF 'laws.FnExactProductRight'. -/
def fnExactProductRightCard : Claim7 := { stood := { row := fnExactProductRightRow, standIns := [], harness := (true, "dfc9b6bd8b9f44c8602e2c5acae741785819d46f98435b7a29db98393543abd8"), looks := false }, kinds := [], alts := [], laidByText := true, laidKinds := [.data, .pinned], laidTests := true, laidLooks := .later }
def FnExactProductRightCardSaid : Prop := Claim7.holds Tryz.pinned (.plain (OpenSpec.ofChange fnExactProductRightSpec)) fnExactProductRightCard

/-- THE TIED CARD OF 'laws.FnExactEnvRight'. -/
def fnExactEnvRightCard : Claim7 := { stood := { row := fnExactEnvRightRow, standIns := [], harness := (true, "dfc9b6bd8b9f44c8602e2c5acae741785819d46f98435b7a29db98393543abd8"), looks := false }, kinds := [], alts := [], laidByText := true, laidKinds := [.data, .pinned], laidTests := true, laidLooks := .later }
def FnExactEnvRightCardSaid : Prop := Claim7.holds Tryz.pinned (.plain (OpenSpec.ofChange fnExactEnvRightSpec)) fnExactEnvRightCard

/-- THE TIED CARD OF 'laws.FnExactVmNamed'. -/
def fnExactVmNamedCard : Claim7 := { stood := { row := fnExactVmNamedRow, standIns := [], harness := (true, "dfc9b6bd8b9f44c8602e2c5acae741785819d46f98435b7a29db98393543abd8"), looks := false }, kinds := [], alts := [], laidByText := true, laidKinds := [.data, .pinned], laidTests := true, laidLooks := .later }
def FnExactVmNamedCardSaid : Prop := Claim7.holds Tryz.pinned (.plain (OpenSpec.ofChange fnExactVmNamedSpec)) fnExactVmNamedCard

/-- THE TIED CARD OF 'laws.FnVars'. -/
def fnVarsCard : Claim7 := { stood := { row := fnVarsRow, standIns := [], harness := (true, "dfc9b6bd8b9f44c8602e2c5acae741785819d46f98435b7a29db98393543abd8"), looks := false }, kinds := [], alts := [], laidByText := true, laidKinds := [.data, .pinned], laidTests := true, laidLooks := .later }
def FnVarsCardSaid : Prop := Claim7.holds Tryz.pinned (.plain (OpenSpec.ofChange fnVarsSpec)) fnVarsCard

/-- THE TIED CARD OF 'laws.FnExactProductCheck'. -/
def fnExactProductCheckCard : Claim7 := { stood := { row := fnExactProductCheckRow, standIns := [], harness := (true, "dfc9b6bd8b9f44c8602e2c5acae741785819d46f98435b7a29db98393543abd8"), looks := false }, kinds := [], alts := [], laidByText := true, laidKinds := [.data, .pinned], laidTests := true, laidLooks := .later }
def FnExactProductCheckCardSaid : Prop := Claim7.holds Tryz.pinned (.plain (OpenSpec.ofChange fnExactProductCheckSpec)) fnExactProductCheckCard

/-- THE TIED CARD OF 'laws.FnExactVarsOf'. -/
def fnExactVarsOfCard : Claim7 := { stood := { row := fnExactVarsOfRow, standIns := [], harness := (true, "dfc9b6bd8b9f44c8602e2c5acae741785819d46f98435b7a29db98393543abd8"), looks := false }, kinds := [], alts := [], laidByText := true, laidKinds := [.data, .pinned], laidTests := true, laidLooks := .later }
def FnExactVarsOfCardSaid : Prop := Claim7.holds Tryz.pinned (.plain (OpenSpec.ofChange fnExactVarsOfSpec)) fnExactVarsOfCard

/-- THE TIED CARD OF 'laws.FnExactProductText'. -/
def fnExactProductTextCard : Claim7 := { stood := { row := fnExactProductTextRow, standIns := [], harness := (true, "dfc9b6bd8b9f44c8602e2c5acae741785819d46f98435b7a29db98393543abd8"), looks := false }, kinds := [], alts := [], laidByText := true, laidKinds := [.data, .data, .data, .data, .pinned], laidTests := true, laidLooks := .later }
def FnExactProductTextCardSaid : Prop := Claim7.holds Tryz.pinned (.plain (OpenSpec.ofChange fnExactProductTextSpec)) fnExactProductTextCard

/-- THE TIED CARD OF 'laws.FnExactCodeSize'. -/
def fnExactCodeSizeCard : Claim7 := { stood := { row := fnExactCodeSizeRow, standIns := [], harness := (true, "dfc9b6bd8b9f44c8602e2c5acae741785819d46f98435b7a29db98393543abd8"), looks := false }, kinds := [], alts := [], laidByText := true, laidKinds := [.data, .pinned], laidTests := true, laidLooks := .later }
def FnExactCodeSizeCardSaid : Prop := Claim7.holds Tryz.pinned (.plain (OpenSpec.ofChange fnExactCodeSizeSpec)) fnExactCodeSizeCard

/-- THE TIED CARD OF 'laws.FnCompiledRight'. -/
def fnCompiledRightCard : Claim7 := { stood := { row := fnCompiledRightRow, standIns := [], harness := (true, "dfc9b6bd8b9f44c8602e2c5acae741785819d46f98435b7a29db98393543abd8"), looks := false }, kinds := [], alts := [], laidByText := true, laidKinds := [.data, .pinned], laidTests := true, laidLooks := .later }
def FnCompiledRightCardSaid : Prop := Claim7.holds Tryz.pinned (.plain (OpenSpec.ofChange fnCompiledRightSpec)) fnCompiledRightCard

/-- THE TIED CARD OF 'laws.FnExactCompile'. -/
def fnExactCompileCard : Claim7 := { stood := { row := fnExactCompileRow, standIns := [], harness := (true, "dfc9b6bd8b9f44c8602e2c5acae741785819d46f98435b7a29db98393543abd8"), looks := false }, kinds := [], alts := [], laidByText := true, laidKinds := [.data, .pinned], laidTests := true, laidLooks := .later }
def FnExactCompileCardSaid : Prop := Claim7.holds Tryz.pinned (.plain (OpenSpec.ofChange fnExactCompileSpec)) fnExactCompileCard

/-- THE SECOND FORM's CARD OF 'laws.FnExactProductRight'. -/
def fnExactProductRightUptoCard : Claim7 := { stood := { row := fnExactProductRightUptoRow, standIns := [], harness := (true, "dfc9b6bd8b9f44c8602e2c5acae741785819d46f98435b7a29db98393543abd8"), looks := false }, kinds := [], alts := [], laidByText := true, laidKinds := [.data, .pinned], laidTests := true, laidLooks := .later }
def FnExactProductRightUptoCardSaid : Prop := Claim7.holds Tryz.pinned (.plain (OpenSpec.upto fnExactProductRightSpec)) fnExactProductRightUptoCard

/-- THE SECOND FORM's CARD OF 'laws.FnExactEnvRight'. -/
def fnExactEnvRightUptoCard : Claim7 := { stood := { row := fnExactEnvRightUptoRow, standIns := [], harness := (true, "dfc9b6bd8b9f44c8602e2c5acae741785819d46f98435b7a29db98393543abd8"), looks := false }, kinds := [], alts := [], laidByText := true, laidKinds := [.data, .pinned], laidTests := true, laidLooks := .later }
def FnExactEnvRightUptoCardSaid : Prop := Claim7.holds Tryz.pinned (.plain (OpenSpec.upto fnExactEnvRightSpec)) fnExactEnvRightUptoCard

/-- THE SECOND FORM's CARD OF 'laws.FnExactVmNamed'. -/
def fnExactVmNamedUptoCard : Claim7 := { stood := { row := fnExactVmNamedUptoRow, standIns := [], harness := (true, "dfc9b6bd8b9f44c8602e2c5acae741785819d46f98435b7a29db98393543abd8"), looks := false }, kinds := [], alts := [], laidByText := true, laidKinds := [.data, .pinned], laidTests := true, laidLooks := .later }
def FnExactVmNamedUptoCardSaid : Prop := Claim7.holds Tryz.pinned (.plain (OpenSpec.upto fnExactVmNamedSpec)) fnExactVmNamedUptoCard

/-- THE SECOND FORM's CARD OF 'laws.FnVars'. -/
def fnVarsUptoCard : Claim7 := { stood := { row := fnVarsUptoRow, standIns := [], harness := (true, "dfc9b6bd8b9f44c8602e2c5acae741785819d46f98435b7a29db98393543abd8"), looks := false }, kinds := [], alts := [], laidByText := true, laidKinds := [.data, .pinned], laidTests := true, laidLooks := .later }
def FnVarsUptoCardSaid : Prop := Claim7.holds Tryz.pinned (.plain (OpenSpec.upto fnVarsSpec)) fnVarsUptoCard

/-- THE SECOND FORM's CARD OF 'laws.FnExactProductCheck'. -/
def fnExactProductCheckUptoCard : Claim7 := { stood := { row := fnExactProductCheckUptoRow, standIns := [], harness := (true, "dfc9b6bd8b9f44c8602e2c5acae741785819d46f98435b7a29db98393543abd8"), looks := false }, kinds := [], alts := [], laidByText := true, laidKinds := [.data, .pinned], laidTests := true, laidLooks := .later }
def FnExactProductCheckUptoCardSaid : Prop := Claim7.holds Tryz.pinned (.plain (OpenSpec.upto fnExactProductCheckSpec)) fnExactProductCheckUptoCard

/-- THE SECOND FORM's CARD OF 'laws.FnExactVarsOf'. -/
def fnExactVarsOfUptoCard : Claim7 := { stood := { row := fnExactVarsOfUptoRow, standIns := [], harness := (true, "dfc9b6bd8b9f44c8602e2c5acae741785819d46f98435b7a29db98393543abd8"), looks := false }, kinds := [], alts := [], laidByText := true, laidKinds := [.data, .pinned], laidTests := true, laidLooks := .later }
def FnExactVarsOfUptoCardSaid : Prop := Claim7.holds Tryz.pinned (.plain (OpenSpec.upto fnExactVarsOfSpec)) fnExactVarsOfUptoCard

/-- THE SECOND FORM's CARD OF 'laws.FnExactProductText'. -/
def fnExactProductTextUptoCard : Claim7 := { stood := { row := fnExactProductTextUptoRow, standIns := [], harness := (true, "dfc9b6bd8b9f44c8602e2c5acae741785819d46f98435b7a29db98393543abd8"), looks := false }, kinds := [], alts := [], laidByText := true, laidKinds := [.data, .data, .data, .data, .pinned], laidTests := true, laidLooks := .later }
def FnExactProductTextUptoCardSaid : Prop := Claim7.holds Tryz.pinned (.plain (OpenSpec.upto fnExactProductTextSpec)) fnExactProductTextUptoCard

/-- THE SECOND FORM's CARD OF 'laws.FnExactCodeSize'. -/
def fnExactCodeSizeUptoCard : Claim7 := { stood := { row := fnExactCodeSizeUptoRow, standIns := [], harness := (true, "dfc9b6bd8b9f44c8602e2c5acae741785819d46f98435b7a29db98393543abd8"), looks := false }, kinds := [], alts := [], laidByText := true, laidKinds := [.data, .pinned], laidTests := true, laidLooks := .later }
def FnExactCodeSizeUptoCardSaid : Prop := Claim7.holds Tryz.pinned (.plain (OpenSpec.upto fnExactCodeSizeSpec)) fnExactCodeSizeUptoCard

/-- THE SECOND FORM's CARD OF 'laws.FnCompiledRight'. -/
def fnCompiledRightUptoCard : Claim7 := { stood := { row := fnCompiledRightUptoRow, standIns := [], harness := (true, "dfc9b6bd8b9f44c8602e2c5acae741785819d46f98435b7a29db98393543abd8"), looks := false }, kinds := [], alts := [], laidByText := true, laidKinds := [.data, .pinned], laidTests := true, laidLooks := .later }
def FnCompiledRightUptoCardSaid : Prop := Claim7.holds Tryz.pinned (.plain (OpenSpec.upto fnCompiledRightSpec)) fnCompiledRightUptoCard

/-- THE SECOND FORM's CARD OF 'laws.FnExactCompile'. -/
def fnExactCompileUptoCard : Claim7 := { stood := { row := fnExactCompileUptoRow, standIns := [], harness := (true, "dfc9b6bd8b9f44c8602e2c5acae741785819d46f98435b7a29db98393543abd8"), looks := false }, kinds := [], alts := [], laidByText := true, laidKinds := [.data, .pinned], laidTests := true, laidLooks := .later }
def FnExactCompileUptoCardSaid : Prop := Claim7.holds Tryz.pinned (.plain (OpenSpec.upto fnExactCompileSpec)) fnExactCompileUptoCard
end Rows
end Go.Proofs.YtodokfmmnihecaaGreatDoor
