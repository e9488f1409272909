/-
  DERIVED. GIVEN WITH THE SEED: THE CARDS: each row of YtgpbjmfcllmohaaGreatDoorRows.lean that lists a variable, with what it lists TIED to the program's text (the seventh form; the later family's looks); each row that meets fmt, with fmt's text TOLD by the authors' own Lean function (tested against real Go, not proved from fmt's source: count such statements apart). THE CARD IS WHAT COUNTS. Prove the row's statement (the work); the ties are given (YtgpbjmfcllmohaaGreatDoorTie.lean); close each card by the builder's one call (the guide's Derived/Test/ToyasCard.lean, 'card_holds'). Laid BY PROGRAM, IN A SANDBOX (cutbox-door.mjs). By AI agents, Wed Nov 11 2026. No macro, syntax, notation, axiom, sorry.
-/
import Derived.Test.YtgpbjmfcllmohaaGreatDoorRows
import GoSem.ClaimSeven
namespace Go.Proofs.YtgpbjmfcllmohaaGreatDoor
namespace Rows

/-- THE TIED CARD OF 'palfreylaw05.DebtCoins'. -/
def debtCoinsCard : Claim7 := { stood := { row := debtCoinsRow, standIns := [], harness := (true, "ba5651e37cd0174b37e57aa55edec2c23220873145d42bbabc339eb2b8fea4db"), looks := true }, kinds := [], alts := [], goes := true, laidByText := true, laidKinds := [.handle], laidTests := true, laidLooks := .later }
def DebtCoinsCardSaid : Prop := Claim7.holds Tryz.pinned (.plain (OpenSpec.ofChange debtCoinsSpec)) debtCoinsCard
end Rows
end Go.Proofs.YtgpbjmfcllmohaaGreatDoor
