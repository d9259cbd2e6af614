/-
  DERIVED. GIVEN WITH THE SEED: THE CARDS: each row of YtaafjaibaaiigaaGreatDoorRows.lean that lists a variable, with what it lists TIED to the program's text (the seventh form; the later family's looks); each row that meets fmt, with fmt's text TOLD by the authors' own Lean function (tested against real Go, not proved from fmt's source: count such statements apart). THE CARD IS WHAT COUNTS. Prove the row's statement (the work); the ties are given (YtaafjaibaaiigaaGreatDoorTie.lean); close each card by the builder's one call (the guide's Derived/Test/ToyasCard.lean, 'card_holds'). Laid BY PROGRAM, IN A SANDBOX (cutbox-door.mjs). By AI agents, Wed Nov 11 2026. No macro, syntax, notation, axiom, sorry.
-/
import Derived.Test.YtaafjaibaaiigaaGreatDoorRows
import GoSem.ClaimSeven
namespace Go.Proofs.YtaafjaibaaiigaaGreatDoor
namespace Rows

/-- THE TIED CARD OF 'hinterlandlaw20.TongueValidates'. -/
def tongueValidatesCard : Claim7 := { stood := { row := tongueValidatesRow, standIns := [], harness := (true, "b40983081ec9ebc9f8f912bd1fa0ed614a2a00747386acb7d28dc9ab2b4ae629"), looks := true }, kinds := [], alts := [], laidByText := true, laidKinds := [.data, .data, .data, .data, .sentinel, .sentinel, .pinned], laidTests := true, laidLooks := .later }
def TongueValidatesCardSaid : Prop := Claim7.holds Tryz.pinned (.plain (OpenSpec.ofChange tongueValidatesSpec)) tongueValidatesCard

/-- THE TIED CARD OF 'hinterlandlaw20.TongueEvals'. -/
def tongueEvalsCard : Claim7 := { stood := { row := tongueEvalsRow, standIns := [], harness := (true, "b40983081ec9ebc9f8f912bd1fa0ed614a2a00747386acb7d28dc9ab2b4ae629"), looks := true }, kinds := [], alts := [], laidByText := true, laidKinds := [.data, .data, .data, .data, .sentinel, .sentinel, .pinned], laidTests := true, laidLooks := .later }
def TongueEvalsCardSaid : Prop := Claim7.holds Tryz.pinned (.plain (OpenSpec.ofChange tongueEvalsSpec)) tongueEvalsCard

/-- THE TIED CARD OF 'hinterlandlaw20.TongueCosts'. -/
def tongueCostsCard : Claim7 := { stood := { row := tongueCostsRow, standIns := [], harness := (true, "b40983081ec9ebc9f8f912bd1fa0ed614a2a00747386acb7d28dc9ab2b4ae629"), looks := true }, kinds := [], alts := [], laidByText := true, laidKinds := [.data, .data, .data, .data, .sentinel, .sentinel, .pinned], laidTests := true, laidLooks := .later }
def TongueCostsCardSaid : Prop := Claim7.holds Tryz.pinned (.plain (OpenSpec.ofChange tongueCostsSpec)) tongueCostsCard

/-- THE TIED CARD OF 'hinterlandlaw20.TongueRuns'. -/
def tongueRunsCard : Claim7 := { stood := { row := tongueRunsRow, standIns := [], harness := (true, "b40983081ec9ebc9f8f912bd1fa0ed614a2a00747386acb7d28dc9ab2b4ae629"), looks := true }, kinds := [], alts := [], laidByText := true, laidKinds := [.data, .data, .data, .data, .sentinel, .sentinel, .pinned], laidTests := true, laidLooks := .later }
def TongueRunsCardSaid : Prop := Claim7.holds Tryz.pinned (.plain (OpenSpec.ofChange tongueRunsSpec)) tongueRunsCard

/-- THE TIED CARD OF 'hinterlandlaw20.TongueRunsRules'. -/
def tongueRunsRulesCard : Claim7 := { stood := { row := tongueRunsRulesRow, standIns := [], harness := (true, "b40983081ec9ebc9f8f912bd1fa0ed614a2a00747386acb7d28dc9ab2b4ae629"), looks := true }, kinds := [], alts := [], laidByText := true, laidKinds := [.data, .data, .data, .data, .sentinel, .sentinel, .pinned], laidTests := true, laidLooks := .later }
def TongueRunsRulesCardSaid : Prop := Claim7.holds Tryz.pinned (.plain (OpenSpec.ofChange tongueRunsRulesSpec)) tongueRunsRulesCard

/-- THE SECOND FORM's CARD OF 'hinterlandlaw20.TongueValidates'. -/
def tongueValidatesUptoCard : Claim7 := { stood := { row := tongueValidatesUptoRow, standIns := [], harness := (true, "b40983081ec9ebc9f8f912bd1fa0ed614a2a00747386acb7d28dc9ab2b4ae629"), looks := true }, kinds := [], alts := [], laidByText := true, laidKinds := [.data, .data, .data, .data, .sentinel, .sentinel, .pinned], laidTests := true, laidLooks := .later }
def TongueValidatesUptoCardSaid : Prop := Claim7.holds Tryz.pinned (.plain (OpenSpec.upto tongueValidatesSpec)) tongueValidatesUptoCard

/-- THE SECOND FORM's CARD OF 'hinterlandlaw20.TongueEvals'. -/
def tongueEvalsUptoCard : Claim7 := { stood := { row := tongueEvalsUptoRow, standIns := [], harness := (true, "b40983081ec9ebc9f8f912bd1fa0ed614a2a00747386acb7d28dc9ab2b4ae629"), looks := true }, kinds := [], alts := [], laidByText := true, laidKinds := [.data, .data, .data, .data, .sentinel, .sentinel, .pinned], laidTests := true, laidLooks := .later }
def TongueEvalsUptoCardSaid : Prop := Claim7.holds Tryz.pinned (.plain (OpenSpec.upto tongueEvalsSpec)) tongueEvalsUptoCard

/-- THE SECOND FORM's CARD OF 'hinterlandlaw20.TongueCosts'. -/
def tongueCostsUptoCard : Claim7 := { stood := { row := tongueCostsUptoRow, standIns := [], harness := (true, "b40983081ec9ebc9f8f912bd1fa0ed614a2a00747386acb7d28dc9ab2b4ae629"), looks := true }, kinds := [], alts := [], laidByText := true, laidKinds := [.data, .data, .data, .data, .sentinel, .sentinel, .pinned], laidTests := true, laidLooks := .later }
def TongueCostsUptoCardSaid : Prop := Claim7.holds Tryz.pinned (.plain (OpenSpec.upto tongueCostsSpec)) tongueCostsUptoCard

/-- THE SECOND FORM's CARD OF 'hinterlandlaw20.TongueRuns'. -/
def tongueRunsUptoCard : Claim7 := { stood := { row := tongueRunsUptoRow, standIns := [], harness := (true, "b40983081ec9ebc9f8f912bd1fa0ed614a2a00747386acb7d28dc9ab2b4ae629"), looks := true }, kinds := [], alts := [], laidByText := true, laidKinds := [.data, .data, .data, .data, .sentinel, .sentinel, .pinned], laidTests := true, laidLooks := .later }
def TongueRunsUptoCardSaid : Prop := Claim7.holds Tryz.pinned (.plain (OpenSpec.upto tongueRunsSpec)) tongueRunsUptoCard

/-- THE SECOND FORM's CARD OF 'hinterlandlaw20.TongueRunsRules'. -/
def tongueRunsRulesUptoCard : Claim7 := { stood := { row := tongueRunsRulesUptoRow, standIns := [], harness := (true, "b40983081ec9ebc9f8f912bd1fa0ed614a2a00747386acb7d28dc9ab2b4ae629"), looks := true }, kinds := [], alts := [], laidByText := true, laidKinds := [.data, .data, .data, .data, .sentinel, .sentinel, .pinned], laidTests := true, laidLooks := .later }
def TongueRunsRulesUptoCardSaid : Prop := Claim7.holds Tryz.pinned (.plain (OpenSpec.upto tongueRunsRulesSpec)) tongueRunsRulesUptoCard
end Rows
end Go.Proofs.YtaafjaibaaiigaaGreatDoor
