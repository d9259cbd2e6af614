/-
  DERIVED. GIVEN WITH THE SEED: THE CARDS: each row of YtllgclopliegfaaDoorRows.lean that lists a variable, with what it lists TIED to the program's text (the seventh form; the later family's looks); each row that meets fmt, with fmt's text TOLD by the authors' own Lean function (tested against real Go, not proved from fmt's source: count such statements apart). THE CARD IS WHAT COUNTS. Prove the row's statement (the work); the ties are given (YtllgclopliegfaaDoorTie.lean); close each card by the builder's one call (the guide's Derived/Test/ToyasCard.lean, 'card_holds'). Laid BY PROGRAM, IN A SANDBOX (cutbox-door.mjs). By AI agents, Wed Nov 11 2026. No macro, syntax, notation, axiom, sorry.
-/
import Derived.Test.YtllgclopliegfaaDoorRows
import GoSem.ClaimSeven
namespace Go.Proofs.YtllgclopliegfaaDoor
namespace Rows

/-- THE TIED CARD OF 'hinterlandlaw03.RailReads'. -/
def railReadsCard : Claim7 := { stood := { row := railReadsRow, standIns := [], harness := (true, "e66536fc509e7b5df77f22c01cb04d8f21efdac38851f7fd2a35f9d76444a2e6"), looks := false }, kinds := [], alts := [], laidByText := true, laidKinds := [.data, .pinned], laidTests := true, laidLooks := .later }
def RailReadsCardSaid : Prop := Claim7.holds Tryd.pinned (.plain (OpenSpec.ofChange railReadsSpec)) railReadsCard

/-- THE TIED CARD OF 'hinterlandlaw03.RailTexts'. -/
def railTextsCard : Claim7 := { stood := { row := railTextsRow, standIns := [], harness := (true, "e66536fc509e7b5df77f22c01cb04d8f21efdac38851f7fd2a35f9d76444a2e6"), looks := false }, kinds := [], alts := [], laidByText := true, laidKinds := [.data, .pinned], laidTests := true, laidLooks := .later }
def RailTextsCardSaid : Prop := Claim7.holds Tryd.pinned (.plain (OpenSpec.ofChange railTextsSpec)) railTextsCard

/-- THE SECOND FORM's CARD OF 'hinterlandlaw03.RailReads'. -/
def railReadsUptoCard : Claim7 := { stood := { row := railReadsUptoRow, standIns := [], harness := (true, "e66536fc509e7b5df77f22c01cb04d8f21efdac38851f7fd2a35f9d76444a2e6"), looks := false }, kinds := [], alts := [], laidByText := true, laidKinds := [.data, .pinned], laidTests := true, laidLooks := .later }
def RailReadsUptoCardSaid : Prop := Claim7.holds Tryd.pinned (.plain (OpenSpec.upto railReadsSpec)) railReadsUptoCard

/-- THE SECOND FORM's CARD OF 'hinterlandlaw03.RailTexts'. -/
def railTextsUptoCard : Claim7 := { stood := { row := railTextsUptoRow, standIns := [], harness := (true, "e66536fc509e7b5df77f22c01cb04d8f21efdac38851f7fd2a35f9d76444a2e6"), looks := false }, kinds := [], alts := [], laidByText := true, laidKinds := [.data, .pinned], laidTests := true, laidLooks := .later }
def RailTextsUptoCardSaid : Prop := Claim7.holds Tryd.pinned (.plain (OpenSpec.upto railTextsSpec)) railTextsUptoCard
end Rows
end Go.Proofs.YtllgclopliegfaaDoor
