/-
  DERIVED. GIVEN WITH THE SEED: THE CARDS: each row of YtmeophcclkejkaaGreatDoorRows.lean that lists a variable, with what it lists TIED to the program's text (the seventh form; the later family's looks); each row that meets fmt, with fmt's text TOLD by the authors' own Lean function (tested against real Go, not proved from fmt's source: count such statements apart). THE CARD IS WHAT COUNTS. Prove the row's statement (the work); the ties are given (YtmeophcclkejkaaGreatDoorTie.lean); close each card by the builder's one call (the guide's Derived/Test/ToyasCard.lean, 'card_holds'). Laid BY PROGRAM, IN A SANDBOX (cutbox-door.mjs). By AI agents, Wed Nov 11 2026. No macro, syntax, notation, axiom, sorry.
-/
import Derived.Test.YtmeophcclkejkaaGreatDoorRows
import GoSem.ClaimSeven
namespace Go.Proofs.YtmeophcclkejkaaGreatDoor
namespace Rows

/-- THE TIED CARD OF 'palfreylaw05.DebtKept'. -/
def debtKeptCard : Claim7 := { stood := { row := debtKeptRow, standIns := [], harness := (true, "a5b52b175413e767e508eb665fbaeadd6fc947b4bc802bccca041f40ac93cca1"), looks := true }, kinds := [], alts := [], goes := true, laidByText := true, laidKinds := [.handle], laidTests := true, laidLooks := .later }
def DebtKeptCardSaid : Prop := Claim7.holds Tryz.pinned (.plain (OpenSpec.ofChange debtKeptSpec)) debtKeptCard

/-- THE TIED CARD OF 'palfreylaw05.DebtPoor'. -/
def debtPoorCard : Claim7 := { stood := { row := debtPoorRow, standIns := [], harness := (true, "a5b52b175413e767e508eb665fbaeadd6fc947b4bc802bccca041f40ac93cca1"), looks := true }, kinds := [], alts := [], goes := true, laidByText := true, laidKinds := [.handle], laidTests := true, laidLooks := .later }
def DebtPoorCardSaid : Prop := Claim7.holds Tryz.pinned (.plain (OpenSpec.ofChange debtPoorSpec)) debtPoorCard

/-- THE TIED CARD OF 'palfreylaw05.DebtCoins'. -/
def debtCoinsCard : Claim7 := { stood := { row := debtCoinsRow, standIns := [], harness := (true, "a5b52b175413e767e508eb665fbaeadd6fc947b4bc802bccca041f40ac93cca1"), looks := true }, kinds := [], alts := [], goes := true, laidByText := true, laidKinds := [.handle], laidTests := true, laidLooks := .later }
def DebtCoinsCardSaid : Prop := Claim7.holds Tryz.pinned (.plain (OpenSpec.ofChange debtCoinsSpec)) debtCoinsCard

/-- THE TIED CARD OF 'palfreylaw05.DebtRights'. -/
def debtRightsCard : Claim7 := { stood := { row := debtRightsRow, standIns := [], harness := (true, "a5b52b175413e767e508eb665fbaeadd6fc947b4bc802bccca041f40ac93cca1"), looks := true }, kinds := [], alts := [], goes := true, laidByText := true, laidKinds := [.handle], laidTests := true, laidLooks := .later }
def DebtRightsCardSaid : Prop := Claim7.holds Tryz.pinned (.plain (OpenSpec.ofChange debtRightsSpec)) debtRightsCard

/-- THE TIED CARD OF 'palfreylaw05.DebtOrder'. -/
def debtOrderCard : Claim7 := { stood := { row := debtOrderRow, standIns := [], harness := (true, "a5b52b175413e767e508eb665fbaeadd6fc947b4bc802bccca041f40ac93cca1"), looks := true }, kinds := [], alts := [], goes := true, laidByText := true, laidKinds := [.handle], laidTests := true, laidLooks := .later }
def DebtOrderCardSaid : Prop := Claim7.holds Tryz.pinned (.plain (OpenSpec.ofChange debtOrderSpec)) debtOrderCard

/-- THE TIED CARD OF 'palfreylaw05.DebtFewest'. -/
def debtFewestCard : Claim7 := { stood := { row := debtFewestRow, standIns := [], harness := (true, "a5b52b175413e767e508eb665fbaeadd6fc947b4bc802bccca041f40ac93cca1"), looks := true }, kinds := [], alts := [], goes := true, laidByText := true, laidKinds := [.handle], laidTests := true, laidLooks := .later }
def DebtFewestCardSaid : Prop := Claim7.holds Tryz.pinned (.plain (OpenSpec.ofChange debtFewestSpec)) debtFewestCard

/-- THE TIED CARD OF 'palfreylaw05.DebtKnown'. -/
def debtKnownCard : Claim7 := { stood := { row := debtKnownRow, standIns := [], harness := (true, "a5b52b175413e767e508eb665fbaeadd6fc947b4bc802bccca041f40ac93cca1"), looks := true }, kinds := [], alts := [], goes := true, laidByText := true, laidKinds := [.handle], laidTests := true, laidLooks := .later }
def DebtKnownCardSaid : Prop := Claim7.holds Tryz.pinned (.plain (OpenSpec.ofChange debtKnownSpec)) debtKnownCard
end Rows
end Go.Proofs.YtmeophcclkejkaaGreatDoor
