/-
  DERIVED. GIVEN WITH THE SEED: THE CARDS: each row of YtboibffcmhheiaaGreatDoorRows.lean that lists a variable, with what it lists TIED to the program's text (the seventh form; the later family's looks); each row that meets fmt, with fmt's text TOLD by the authors' own Lean function (tested against real Go, not proved from fmt's source: count such statements apart). THE CARD IS WHAT COUNTS. Prove the row's statement (the work); the ties are given (YtboibffcmhheiaaGreatDoorTie.lean); close each card by the builder's one call (the guide's Derived/Test/ToyasCard.lean, 'card_holds'). Laid BY PROGRAM, IN A SANDBOX (cutbox-door.mjs). By AI agents, Wed Nov 11 2026. No macro, syntax, notation, axiom, sorry.
-/
import Derived.Test.YtboibffcmhheiaaGreatDoorRows
import GoSem.ClaimSeven
namespace Go.Proofs.YtboibffcmhheiaaGreatDoor
namespace Rows

/-- THE TIED CARD OF 'palfreylaw02.ToothCounts'. -/
def toothCountsCard : Claim7 := { stood := { row := toothCountsRow, standIns := [], harness := (true, "69365d541d10418e9c50f3fa49e39882b4000503ae382df684d84938b40f1694"), looks := true }, kinds := [], alts := [], goes := true, laidByText := true, laidKinds := [.handle], laidTests := true, laidLooks := .later }
def ToothCountsCardSaid : Prop := Claim7.holds Tryz.pinned (.plain (OpenSpec.ofChange toothCountsSpec)) toothCountsCard

/-- THE TIED CARD OF 'palfreylaw02.ToothSettles'. -/
def toothSettlesCard : Claim7 := { stood := { row := toothSettlesRow, standIns := [], harness := (true, "69365d541d10418e9c50f3fa49e39882b4000503ae382df684d84938b40f1694"), looks := true }, kinds := [], alts := [], goes := true, laidByText := true, laidKinds := [.handle], laidTests := true, laidLooks := .later }
def ToothSettlesCardSaid : Prop := Claim7.holds Tryz.pinned (.plain (OpenSpec.ofChange toothSettlesSpec)) toothSettlesCard

/-- THE TIED CARD OF 'palfreylaw02.ToothAlikes'. -/
def toothAlikesCard : Claim7 := { stood := { row := toothAlikesRow, standIns := [], harness := (true, "69365d541d10418e9c50f3fa49e39882b4000503ae382df684d84938b40f1694"), looks := true }, kinds := [], alts := [], goes := true, laidByText := true, laidKinds := [.handle], laidTests := true, laidLooks := .later }
def ToothAlikesCardSaid : Prop := Claim7.holds Tryz.pinned (.plain (OpenSpec.ofChange toothAlikesSpec)) toothAlikesCard

/-- THE TIED CARD OF 'palfreylaw02.ToothMore'. -/
def toothMoreCard : Claim7 := { stood := { row := toothMoreRow, standIns := [], harness := (true, "69365d541d10418e9c50f3fa49e39882b4000503ae382df684d84938b40f1694"), looks := true }, kinds := [], alts := [], goes := true, laidByText := true, laidKinds := [.handle], laidTests := true, laidLooks := .later }
def ToothMoreCardSaid : Prop := Claim7.holds Tryz.pinned (.plain (OpenSpec.ofChange toothMoreSpec)) toothMoreCard

/-- THE TIED CARD OF 'palfreylaw02.ToothAlike'. -/
def toothAlikeCard : Claim7 := { stood := { row := toothAlikeRow, standIns := [], harness := (true, "69365d541d10418e9c50f3fa49e39882b4000503ae382df684d84938b40f1694"), looks := true }, kinds := [], alts := [], goes := true, laidByText := true, laidKinds := [.handle], laidTests := true, laidLooks := .later }
def ToothAlikeCardSaid : Prop := Claim7.holds Tryz.pinned (.plain (OpenSpec.ofChange toothAlikeSpec)) toothAlikeCard

/-- THE TIED CARD OF 'palfreylaw02.ToothFilings'. -/
def toothFilingsCard : Claim7 := { stood := { row := toothFilingsRow, standIns := [], harness := (true, "69365d541d10418e9c50f3fa49e39882b4000503ae382df684d84938b40f1694"), looks := true }, kinds := [], alts := [], goes := true, laidByText := true, laidKinds := [.handle], laidTests := true, laidLooks := .later }
def ToothFilingsCardSaid : Prop := Claim7.holds Tryz.pinned (.plain (OpenSpec.ofChange toothFilingsSpec)) toothFilingsCard

/-- THE TIED CARD OF 'palfreylaw02.ToothCourse'. -/
def toothCourseCard : Claim7 := { stood := { row := toothCourseRow, standIns := [], harness := (true, "69365d541d10418e9c50f3fa49e39882b4000503ae382df684d84938b40f1694"), looks := true }, kinds := [], alts := [], goes := true, laidByText := true, laidKinds := [.handle], laidTests := true, laidLooks := .later }
def ToothCourseCardSaid : Prop := Claim7.holds Tryz.pinned (.plain (OpenSpec.ofChange toothCourseSpec)) toothCourseCard

/-- THE TIED CARD OF 'palfreylaw02.ToothLook'. -/
def toothLookCard : Claim7 := { stood := { row := toothLookRow, standIns := [], harness := (true, "69365d541d10418e9c50f3fa49e39882b4000503ae382df684d84938b40f1694"), looks := true }, kinds := [], alts := [], goes := true, laidByText := true, laidKinds := [.handle], laidTests := true, laidLooks := .later }
def ToothLookCardSaid : Prop := Claim7.holds Tryz.pinned (.plain (OpenSpec.ofChange toothLookSpec)) toothLookCard

/-- THE TIED CARD OF 'palfreylaw02.ToothSettle'. -/
def toothSettleCard : Claim7 := { stood := { row := toothSettleRow, standIns := [], harness := (true, "69365d541d10418e9c50f3fa49e39882b4000503ae382df684d84938b40f1694"), looks := true }, kinds := [], alts := [], goes := true, laidByText := true, laidKinds := [.handle], laidTests := true, laidLooks := .later }
def ToothSettleCardSaid : Prop := Claim7.holds Tryz.pinned (.plain (OpenSpec.ofChange toothSettleSpec)) toothSettleCard

/-- THE TIED CARD OF 'palfreylaw02.ToothNumbered'. -/
def toothNumberedCard : Claim7 := { stood := { row := toothNumberedRow, standIns := [], harness := (true, "69365d541d10418e9c50f3fa49e39882b4000503ae382df684d84938b40f1694"), looks := true }, kinds := [], alts := [], goes := true, laidByText := true, laidKinds := [.handle], laidTests := true, laidLooks := .later }
def ToothNumberedCardSaid : Prop := Claim7.holds Tryz.pinned (.plain (OpenSpec.ofChange toothNumberedSpec)) toothNumberedCard

/-- THE TIED CARD OF 'palfreylaw02.ToothCheats'. -/
def toothCheatsCard : Claim7 := { stood := { row := toothCheatsRow, standIns := [], harness := (true, "69365d541d10418e9c50f3fa49e39882b4000503ae382df684d84938b40f1694"), looks := true }, kinds := [], alts := [], goes := true, laidByText := true, laidKinds := [.handle], laidTests := true, laidLooks := .later }
def ToothCheatsCardSaid : Prop := Claim7.holds Tryz.pinned (.plain (OpenSpec.ofChange toothCheatsSpec)) toothCheatsCard

/-- THE TIED CARD OF 'palfreylaw02.ToothCheat'. -/
def toothCheatCard : Claim7 := { stood := { row := toothCheatRow, standIns := [], harness := (true, "69365d541d10418e9c50f3fa49e39882b4000503ae382df684d84938b40f1694"), looks := true }, kinds := [], alts := [], goes := true, laidByText := true, laidKinds := [.handle], laidTests := true, laidLooks := .later }
def ToothCheatCardSaid : Prop := Claim7.holds Tryz.pinned (.plain (OpenSpec.ofChange toothCheatSpec)) toothCheatCard

/-- THE TIED CARD OF 'palfreylaw02.ToothAges'. -/
def toothAgesCard : Claim7 := { stood := { row := toothAgesRow, standIns := [], harness := (true, "69365d541d10418e9c50f3fa49e39882b4000503ae382df684d84938b40f1694"), looks := true }, kinds := [], alts := [], goes := true, laidByText := true, laidKinds := [.handle], laidTests := true, laidLooks := .later }
def ToothAgesCardSaid : Prop := Claim7.holds Tryz.pinned (.plain (OpenSpec.ofChange toothAgesSpec)) toothAgesCard

/-- THE TIED CARD OF 'palfreylaw02.ToothHonest'. -/
def toothHonestCard : Claim7 := { stood := { row := toothHonestRow, standIns := [], harness := (true, "69365d541d10418e9c50f3fa49e39882b4000503ae382df684d84938b40f1694"), looks := true }, kinds := [], alts := [], goes := true, laidByText := true, laidKinds := [.handle], laidTests := true, laidLooks := .later }
def ToothHonestCardSaid : Prop := Claim7.holds Tryz.pinned (.plain (OpenSpec.ofChange toothHonestSpec)) toothHonestCard

/-- THE TIED CARD OF 'palfreylaw02.ToothAll'. -/
def toothAllCard : Claim7 := { stood := { row := toothAllRow, standIns := [], harness := (true, "69365d541d10418e9c50f3fa49e39882b4000503ae382df684d84938b40f1694"), looks := true }, kinds := [], alts := [], goes := true, laidByText := true, laidKinds := [.handle], laidTests := true, laidLooks := .later }
def ToothAllCardSaid : Prop := Claim7.holds Tryz.pinned (.plain (OpenSpec.ofChange toothAllSpec)) toothAllCard

/-- THE TIED CARD OF 'palfreylaw02.ToothChecks'. -/
def toothChecksCard : Claim7 := { stood := { row := toothChecksRow, standIns := [], harness := (true, "69365d541d10418e9c50f3fa49e39882b4000503ae382df684d84938b40f1694"), looks := true }, kinds := [], alts := [], goes := true, laidByText := true, laidKinds := [.handle], laidTests := true, laidLooks := .later }
def ToothChecksCardSaid : Prop := Claim7.holds Tryz.pinned (.plain (OpenSpec.ofChange toothChecksSpec)) toothChecksCard

/-- THE TIED CARD OF 'palfreylaw02.ToothYears'. -/
def toothYearsCard : Claim7 := { stood := { row := toothYearsRow, standIns := [], harness := (true, "69365d541d10418e9c50f3fa49e39882b4000503ae382df684d84938b40f1694"), looks := true }, kinds := [], alts := [], goes := true, laidByText := true, laidKinds := [.handle], laidTests := true, laidLooks := .later }
def ToothYearsCardSaid : Prop := Claim7.holds Tryz.pinned (.plain (OpenSpec.ofChange toothYearsSpec)) toothYearsCard

/-- THE TIED CARD OF 'palfreylaw02.ToothKnown'. -/
def toothKnownCard : Claim7 := { stood := { row := toothKnownRow, standIns := [], harness := (true, "69365d541d10418e9c50f3fa49e39882b4000503ae382df684d84938b40f1694"), looks := true }, kinds := [], alts := [], goes := true, laidByText := true, laidKinds := [.handle], laidTests := true, laidLooks := .later }
def ToothKnownCardSaid : Prop := Claim7.holds Tryz.pinned (.plain (OpenSpec.ofChange toothKnownSpec)) toothKnownCard

/-- THE SECOND FORM's CARD OF 'palfreylaw02.ToothCounts'. -/
def toothCountsUptoCard : Claim7 := { stood := { row := toothCountsUptoRow, standIns := [], harness := (true, "69365d541d10418e9c50f3fa49e39882b4000503ae382df684d84938b40f1694"), looks := true }, kinds := [], alts := [], goes := true, laidByText := true, laidKinds := [.handle], laidTests := true, laidLooks := .later }
def ToothCountsUptoCardSaid : Prop := Claim7.holds Tryz.pinned (.plain (OpenSpec.upto toothCountsSpec)) toothCountsUptoCard

/-- THE SECOND FORM's CARD OF 'palfreylaw02.ToothSettles'. -/
def toothSettlesUptoCard : Claim7 := { stood := { row := toothSettlesUptoRow, standIns := [], harness := (true, "69365d541d10418e9c50f3fa49e39882b4000503ae382df684d84938b40f1694"), looks := true }, kinds := [], alts := [], goes := true, laidByText := true, laidKinds := [.handle], laidTests := true, laidLooks := .later }
def ToothSettlesUptoCardSaid : Prop := Claim7.holds Tryz.pinned (.plain (OpenSpec.upto toothSettlesSpec)) toothSettlesUptoCard

/-- THE SECOND FORM's CARD OF 'palfreylaw02.ToothAlikes'. -/
def toothAlikesUptoCard : Claim7 := { stood := { row := toothAlikesUptoRow, standIns := [], harness := (true, "69365d541d10418e9c50f3fa49e39882b4000503ae382df684d84938b40f1694"), looks := true }, kinds := [], alts := [], goes := true, laidByText := true, laidKinds := [.handle], laidTests := true, laidLooks := .later }
def ToothAlikesUptoCardSaid : Prop := Claim7.holds Tryz.pinned (.plain (OpenSpec.upto toothAlikesSpec)) toothAlikesUptoCard

/-- THE SECOND FORM's CARD OF 'palfreylaw02.ToothMore'. -/
def toothMoreUptoCard : Claim7 := { stood := { row := toothMoreUptoRow, standIns := [], harness := (true, "69365d541d10418e9c50f3fa49e39882b4000503ae382df684d84938b40f1694"), looks := true }, kinds := [], alts := [], goes := true, laidByText := true, laidKinds := [.handle], laidTests := true, laidLooks := .later }
def ToothMoreUptoCardSaid : Prop := Claim7.holds Tryz.pinned (.plain (OpenSpec.upto toothMoreSpec)) toothMoreUptoCard

/-- THE SECOND FORM's CARD OF 'palfreylaw02.ToothAlike'. -/
def toothAlikeUptoCard : Claim7 := { stood := { row := toothAlikeUptoRow, standIns := [], harness := (true, "69365d541d10418e9c50f3fa49e39882b4000503ae382df684d84938b40f1694"), looks := true }, kinds := [], alts := [], goes := true, laidByText := true, laidKinds := [.handle], laidTests := true, laidLooks := .later }
def ToothAlikeUptoCardSaid : Prop := Claim7.holds Tryz.pinned (.plain (OpenSpec.upto toothAlikeSpec)) toothAlikeUptoCard

/-- THE SECOND FORM's CARD OF 'palfreylaw02.ToothFilings'. -/
def toothFilingsUptoCard : Claim7 := { stood := { row := toothFilingsUptoRow, standIns := [], harness := (true, "69365d541d10418e9c50f3fa49e39882b4000503ae382df684d84938b40f1694"), looks := true }, kinds := [], alts := [], goes := true, laidByText := true, laidKinds := [.handle], laidTests := true, laidLooks := .later }
def ToothFilingsUptoCardSaid : Prop := Claim7.holds Tryz.pinned (.plain (OpenSpec.upto toothFilingsSpec)) toothFilingsUptoCard

/-- THE SECOND FORM's CARD OF 'palfreylaw02.ToothCourse'. -/
def toothCourseUptoCard : Claim7 := { stood := { row := toothCourseUptoRow, standIns := [], harness := (true, "69365d541d10418e9c50f3fa49e39882b4000503ae382df684d84938b40f1694"), looks := true }, kinds := [], alts := [], goes := true, laidByText := true, laidKinds := [.handle], laidTests := true, laidLooks := .later }
def ToothCourseUptoCardSaid : Prop := Claim7.holds Tryz.pinned (.plain (OpenSpec.upto toothCourseSpec)) toothCourseUptoCard

/-- THE SECOND FORM's CARD OF 'palfreylaw02.ToothLook'. -/
def toothLookUptoCard : Claim7 := { stood := { row := toothLookUptoRow, standIns := [], harness := (true, "69365d541d10418e9c50f3fa49e39882b4000503ae382df684d84938b40f1694"), looks := true }, kinds := [], alts := [], goes := true, laidByText := true, laidKinds := [.handle], laidTests := true, laidLooks := .later }
def ToothLookUptoCardSaid : Prop := Claim7.holds Tryz.pinned (.plain (OpenSpec.upto toothLookSpec)) toothLookUptoCard

/-- THE SECOND FORM's CARD OF 'palfreylaw02.ToothSettle'. -/
def toothSettleUptoCard : Claim7 := { stood := { row := toothSettleUptoRow, standIns := [], harness := (true, "69365d541d10418e9c50f3fa49e39882b4000503ae382df684d84938b40f1694"), looks := true }, kinds := [], alts := [], goes := true, laidByText := true, laidKinds := [.handle], laidTests := true, laidLooks := .later }
def ToothSettleUptoCardSaid : Prop := Claim7.holds Tryz.pinned (.plain (OpenSpec.upto toothSettleSpec)) toothSettleUptoCard

/-- THE SECOND FORM's CARD OF 'palfreylaw02.ToothNumbered'. -/
def toothNumberedUptoCard : Claim7 := { stood := { row := toothNumberedUptoRow, standIns := [], harness := (true, "69365d541d10418e9c50f3fa49e39882b4000503ae382df684d84938b40f1694"), looks := true }, kinds := [], alts := [], goes := true, laidByText := true, laidKinds := [.handle], laidTests := true, laidLooks := .later }
def ToothNumberedUptoCardSaid : Prop := Claim7.holds Tryz.pinned (.plain (OpenSpec.upto toothNumberedSpec)) toothNumberedUptoCard

/-- THE SECOND FORM's CARD OF 'palfreylaw02.ToothCheats'. -/
def toothCheatsUptoCard : Claim7 := { stood := { row := toothCheatsUptoRow, standIns := [], harness := (true, "69365d541d10418e9c50f3fa49e39882b4000503ae382df684d84938b40f1694"), looks := true }, kinds := [], alts := [], goes := true, laidByText := true, laidKinds := [.handle], laidTests := true, laidLooks := .later }
def ToothCheatsUptoCardSaid : Prop := Claim7.holds Tryz.pinned (.plain (OpenSpec.upto toothCheatsSpec)) toothCheatsUptoCard

/-- THE SECOND FORM's CARD OF 'palfreylaw02.ToothCheat'. -/
def toothCheatUptoCard : Claim7 := { stood := { row := toothCheatUptoRow, standIns := [], harness := (true, "69365d541d10418e9c50f3fa49e39882b4000503ae382df684d84938b40f1694"), looks := true }, kinds := [], alts := [], goes := true, laidByText := true, laidKinds := [.handle], laidTests := true, laidLooks := .later }
def ToothCheatUptoCardSaid : Prop := Claim7.holds Tryz.pinned (.plain (OpenSpec.upto toothCheatSpec)) toothCheatUptoCard

/-- THE SECOND FORM's CARD OF 'palfreylaw02.ToothAges'. -/
def toothAgesUptoCard : Claim7 := { stood := { row := toothAgesUptoRow, standIns := [], harness := (true, "69365d541d10418e9c50f3fa49e39882b4000503ae382df684d84938b40f1694"), looks := true }, kinds := [], alts := [], goes := true, laidByText := true, laidKinds := [.handle], laidTests := true, laidLooks := .later }
def ToothAgesUptoCardSaid : Prop := Claim7.holds Tryz.pinned (.plain (OpenSpec.upto toothAgesSpec)) toothAgesUptoCard

/-- THE SECOND FORM's CARD OF 'palfreylaw02.ToothHonest'. -/
def toothHonestUptoCard : Claim7 := { stood := { row := toothHonestUptoRow, standIns := [], harness := (true, "69365d541d10418e9c50f3fa49e39882b4000503ae382df684d84938b40f1694"), looks := true }, kinds := [], alts := [], goes := true, laidByText := true, laidKinds := [.handle], laidTests := true, laidLooks := .later }
def ToothHonestUptoCardSaid : Prop := Claim7.holds Tryz.pinned (.plain (OpenSpec.upto toothHonestSpec)) toothHonestUptoCard

/-- THE SECOND FORM's CARD OF 'palfreylaw02.ToothAll'. -/
def toothAllUptoCard : Claim7 := { stood := { row := toothAllUptoRow, standIns := [], harness := (true, "69365d541d10418e9c50f3fa49e39882b4000503ae382df684d84938b40f1694"), looks := true }, kinds := [], alts := [], goes := true, laidByText := true, laidKinds := [.handle], laidTests := true, laidLooks := .later }
def ToothAllUptoCardSaid : Prop := Claim7.holds Tryz.pinned (.plain (OpenSpec.upto toothAllSpec)) toothAllUptoCard

/-- THE SECOND FORM's CARD OF 'palfreylaw02.ToothChecks'. -/
def toothChecksUptoCard : Claim7 := { stood := { row := toothChecksUptoRow, standIns := [], harness := (true, "69365d541d10418e9c50f3fa49e39882b4000503ae382df684d84938b40f1694"), looks := true }, kinds := [], alts := [], goes := true, laidByText := true, laidKinds := [.handle], laidTests := true, laidLooks := .later }
def ToothChecksUptoCardSaid : Prop := Claim7.holds Tryz.pinned (.plain (OpenSpec.upto toothChecksSpec)) toothChecksUptoCard

/-- THE SECOND FORM's CARD OF 'palfreylaw02.ToothYears'. -/
def toothYearsUptoCard : Claim7 := { stood := { row := toothYearsUptoRow, standIns := [], harness := (true, "69365d541d10418e9c50f3fa49e39882b4000503ae382df684d84938b40f1694"), looks := true }, kinds := [], alts := [], goes := true, laidByText := true, laidKinds := [.handle], laidTests := true, laidLooks := .later }
def ToothYearsUptoCardSaid : Prop := Claim7.holds Tryz.pinned (.plain (OpenSpec.upto toothYearsSpec)) toothYearsUptoCard

/-- THE SECOND FORM's CARD OF 'palfreylaw02.ToothKnown'. -/
def toothKnownUptoCard : Claim7 := { stood := { row := toothKnownUptoRow, standIns := [], harness := (true, "69365d541d10418e9c50f3fa49e39882b4000503ae382df684d84938b40f1694"), looks := true }, kinds := [], alts := [], goes := true, laidByText := true, laidKinds := [.handle], laidTests := true, laidLooks := .later }
def ToothKnownUptoCardSaid : Prop := Claim7.holds Tryz.pinned (.plain (OpenSpec.upto toothKnownSpec)) toothKnownUptoCard
end Rows
end Go.Proofs.YtboibffcmhheiaaGreatDoor
