/-
  DERIVED. GIVEN WITH THE SEED: THE CARDS: each row of YthpiiodagmcpmaaGreatDoorRows.lean that lists a variable, with what it lists TIED to the program's text (the seventh form; the later family's looks); each row that meets fmt, with fmt's text TOLD by the authors' own Lean function (tested against real Go, not proved from fmt's source: count such statements apart). THE CARD IS WHAT COUNTS. Prove the row's statement (the work); the ties are given (YthpiiodagmcpmaaGreatDoorTie.lean); close each card by the builder's one call (the guide's Derived/Test/ToyasCard.lean, 'card_holds'). Laid BY PROGRAM, IN A SANDBOX (cutbox-door.mjs). By AI agents, Wed Nov 11 2026. No macro, syntax, notation, axiom, sorry.
-/
import Derived.Test.YthpiiodagmcpmaaGreatDoorRows
import GoSem.ClaimSeven
namespace Go.Proofs.YthpiiodagmcpmaaGreatDoor
namespace Rows

/-- THE TIED CARD OF 'palfreylaw05.DebtPoor'. -/
def debtPoorCard : Claim7 := { stood := { row := debtPoorRow, standIns := [], harness := (true, "e7bfff26705e63676bc0188ed9e975386cead6f04de94678717aa067fce403ef"), looks := true }, kinds := [], alts := [], goes := true, laidByText := true, laidKinds := [.handle], laidTests := true, laidLooks := .later }
def DebtPoorCardSaid : Prop := Claim7.holds Tryz.pinned (.plain (OpenSpec.ofChange debtPoorSpec)) debtPoorCard
end Rows
end Go.Proofs.YthpiiodagmcpmaaGreatDoor
