/-
  DERIVED. GIVEN WITH THE SEED: THE CARDS: each row of YtmbgkhhhldcpcaaGreatDoorRows.lean that lists a variable, with what it lists TIED to the program's text (the seventh form; the later family's looks); each row that meets fmt, with fmt's text TOLD by the authors' own Lean function (tested against real Go, not proved from fmt's source: count such statements apart). THE CARD IS WHAT COUNTS. Prove the row's statement (the work); the ties are given (YtmbgkhhhldcpcaaGreatDoorTie.lean); close each card by the builder's one call (the guide's Derived/Test/ToyasCard.lean, 'card_holds'). Laid BY PROGRAM, IN A SANDBOX (cutbox-door.mjs). By AI agents, Wed Nov 11 2026. No macro, syntax, notation, axiom, sorry.
-/
import Derived.Test.YtmbgkhhhldcpcaaGreatDoorRows
import GoSem.ClaimSeven
namespace Go.Proofs.YtmbgkhhhldcpcaaGreatDoor
namespace Rows

/-- THE TIED CARD OF 'palfreylaw05.DebtOrder'. -/
def debtOrderCard : Claim7 := { stood := { row := debtOrderRow, standIns := [], harness := (true, "bc62205f502f3c9b1ae26937871a04f7a5a49525bdfc2e70db59cfd366851379"), looks := true }, kinds := [], alts := [], goes := true, laidByText := true, laidKinds := [.handle], laidTests := true, laidLooks := .later }
def DebtOrderCardSaid : Prop := Claim7.holds Tryz.pinned (.plain (OpenSpec.ofChange debtOrderSpec)) debtOrderCard
end Rows
end Go.Proofs.YtmbgkhhhldcpcaaGreatDoor
