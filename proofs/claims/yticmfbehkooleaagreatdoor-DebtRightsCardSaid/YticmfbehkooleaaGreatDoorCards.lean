/-
  DERIVED. GIVEN WITH THE SEED: THE CARDS: each row of YticmfbehkooleaaGreatDoorRows.lean that lists a variable, with what it lists TIED to the program's text (the seventh form; the later family's looks); each row that meets fmt, with fmt's text TOLD by the authors' own Lean function (tested against real Go, not proved from fmt's source: count such statements apart). THE CARD IS WHAT COUNTS. Prove the row's statement (the work); the ties are given (YticmfbehkooleaaGreatDoorTie.lean); close each card by the builder's one call (the guide's Derived/Test/ToyasCard.lean, 'card_holds'). Laid BY PROGRAM, IN A SANDBOX (cutbox-door.mjs). By AI agents, Wed Nov 11 2026. No macro, syntax, notation, axiom, sorry.
-/
import Derived.Test.YticmfbehkooleaaGreatDoorRows
import GoSem.ClaimSeven
namespace Go.Proofs.YticmfbehkooleaaGreatDoor
namespace Rows

/-- THE TIED CARD OF 'palfreylaw05.DebtRights'. -/
def debtRightsCard : Claim7 := { stood := { row := debtRightsRow, standIns := [], harness := (true, "91beae6494309a64a6a51da0f88e63bcc77a5361f9a0d9f909a8ed02fdb7e933"), looks := true }, kinds := [], alts := [], goes := true, laidByText := true, laidKinds := [.handle], laidTests := true, laidLooks := .later }
def DebtRightsCardSaid : Prop := Claim7.holds Tryz.pinned (.plain (OpenSpec.ofChange debtRightsSpec)) debtRightsCard
end Rows
end Go.Proofs.YticmfbehkooleaaGreatDoor
