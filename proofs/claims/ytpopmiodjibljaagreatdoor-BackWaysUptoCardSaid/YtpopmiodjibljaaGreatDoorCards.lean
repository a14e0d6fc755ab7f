/-
  DERIVED. GIVEN WITH THE SEED: THE CARDS: each row of YtpopmiodjibljaaGreatDoorRows.lean that lists a variable, with what it lists TIED to the program's text (the seventh form; the later family's looks); each row that meets fmt, with fmt's text TOLD by the authors' own Lean function (tested against real Go, not proved from fmt's source: count such statements apart). THE CARD IS WHAT COUNTS. Prove the row's statement (the work); the ties are given (YtpopmiodjibljaaGreatDoorTie.lean); close each card by the builder's one call (the guide's Derived/Test/ToyasCard.lean, 'card_holds'). Laid BY PROGRAM, IN A SANDBOX (cutbox-door.mjs). By AI agents, Wed Nov 11 2026. No macro, syntax, notation, axiom, sorry.
-/
import Derived.Test.YtpopmiodjibljaaGreatDoorRows
import GoSem.ClaimSeven
namespace Go.Proofs.YtpopmiodjibljaaGreatDoor
namespace Rows

/-- THE TIED CARD OF 'motleylaw12.PatClasses'. -/
def patClassesCard : Claim7 := { stood := { row := patClassesRow, standIns := [], harness := (true, "5a74342212fb92bb095edda02a16617c3dad91eb0f555a3594926fee75e29ecd"), looks := true }, kinds := [], alts := [], laidByText := true, laidKinds := [.data, .data, .data, .data, .pinned, .pinned], laidTests := true, laidLooks := .later }
def PatClassesCardSaid : Prop := Claim7.holds Tryz.pinned (.plain (OpenSpec.ofChange patClassesSpec)) patClassesCard

/-- THE TIED CARD OF 'motleylaw13.BackMatches'. -/
def backMatchesCard : Claim7 := { stood := { row := backMatchesRow, standIns := [], harness := (true, "5a74342212fb92bb095edda02a16617c3dad91eb0f555a3594926fee75e29ecd"), looks := true }, kinds := [], alts := [], laidByText := true, laidKinds := [.data, .pinned, .pinned], laidTests := true, laidLooks := .later }
def BackMatchesCardSaid : Prop := Claim7.holds Tryz.pinned (.plain (OpenSpec.ofChange backMatchesSpec)) backMatchesCard

/-- THE TIED CARD OF 'motleylaw13.BackSearches'. -/
def backSearchesCard : Claim7 := { stood := { row := backSearchesRow, standIns := [], harness := (true, "5a74342212fb92bb095edda02a16617c3dad91eb0f555a3594926fee75e29ecd"), looks := true }, kinds := [], alts := [], laidByText := true, laidKinds := [.data, .pinned, .pinned], laidTests := true, laidLooks := .later }
def BackSearchesCardSaid : Prop := Claim7.holds Tryz.pinned (.plain (OpenSpec.ofChange backSearchesSpec)) backSearchesCard

/-- THE TIED CARD OF 'motleylaw13.BackPossessive'. -/
def backPossessiveCard : Claim7 := { stood := { row := backPossessiveRow, standIns := [], harness := (true, "5a74342212fb92bb095edda02a16617c3dad91eb0f555a3594926fee75e29ecd"), looks := true }, kinds := [], alts := [], laidByText := true, laidKinds := [.data, .pinned, .pinned], laidTests := true, laidLooks := .later }
def BackPossessiveCardSaid : Prop := Claim7.holds Tryz.pinned (.plain (OpenSpec.ofChange backPossessiveSpec)) backPossessiveCard

/-- THE TIED CARD OF 'motleylaw13.BackCodes'. -/
def backCodesCard : Claim7 := { stood := { row := backCodesRow, standIns := [], harness := (true, "5a74342212fb92bb095edda02a16617c3dad91eb0f555a3594926fee75e29ecd"), looks := true }, kinds := [], alts := [], laidByText := true, laidKinds := [.data, .pinned, .pinned], laidTests := true, laidLooks := .later }
def BackCodesCardSaid : Prop := Claim7.holds Tryz.pinned (.plain (OpenSpec.ofChange backCodesSpec)) backCodesCard

/-- THE TIED CARD OF 'motleylaw13.BackLeftmost'. -/
def backLeftmostCard : Claim7 := { stood := { row := backLeftmostRow, standIns := [], harness := (true, "5a74342212fb92bb095edda02a16617c3dad91eb0f555a3594926fee75e29ecd"), looks := true }, kinds := [], alts := [], laidByText := true, laidKinds := [.data, .pinned, .pinned], laidTests := true, laidLooks := .later }
def BackLeftmostCardSaid : Prop := Claim7.holds Tryz.pinned (.plain (OpenSpec.ofChange backLeftmostSpec)) backLeftmostCard

/-- THE TIED CARD OF 'motleylaw13.BackWays'. -/
def backWaysCard : Claim7 := { stood := { row := backWaysRow, standIns := [], harness := (true, "5a74342212fb92bb095edda02a16617c3dad91eb0f555a3594926fee75e29ecd"), looks := true }, kinds := [], alts := [], laidByText := true, laidKinds := [.data, .pinned, .pinned], laidTests := true, laidLooks := .later }
def BackWaysCardSaid : Prop := Claim7.holds Tryz.pinned (.plain (OpenSpec.ofChange backWaysSpec)) backWaysCard

/-- THE TIED CARD OF 'motleylaw13.BackAlls'. -/
def backAllsCard : Claim7 := { stood := { row := backAllsRow, standIns := [], harness := (true, "5a74342212fb92bb095edda02a16617c3dad91eb0f555a3594926fee75e29ecd"), looks := true }, kinds := [], alts := [], laidByText := true, laidKinds := [.data, .pinned, .pinned], laidTests := true, laidLooks := .later }
def BackAllsCardSaid : Prop := Claim7.holds Tryz.pinned (.plain (OpenSpec.ofChange backAllsSpec)) backAllsCard

/-- THE TIED CARD OF 'motleylaw13.BackWholes'. -/
def backWholesCard : Claim7 := { stood := { row := backWholesRow, standIns := [], harness := (true, "5a74342212fb92bb095edda02a16617c3dad91eb0f555a3594926fee75e29ecd"), looks := true }, kinds := [], alts := [], laidByText := true, laidKinds := [.data, .pinned, .pinned], laidTests := true, laidLooks := .later }
def BackWholesCardSaid : Prop := Claim7.holds Tryz.pinned (.plain (OpenSpec.ofChange backWholesSpec)) backWholesCard

/-- THE TIED CARD OF 'motleylaw13.BackTexts'. -/
def backTextsCard : Claim7 := { stood := { row := backTextsRow, standIns := [], harness := (true, "5a74342212fb92bb095edda02a16617c3dad91eb0f555a3594926fee75e29ecd"), looks := true }, kinds := [], alts := [], laidByText := true, laidKinds := [.data, .pinned, .pinned], laidTests := true, laidLooks := .later }
def BackTextsCardSaid : Prop := Claim7.holds Tryz.pinned (.plain (OpenSpec.ofChange backTextsSpec)) backTextsCard

/-- THE TIED CARD OF 'motleylaw13.BackTurned'. -/
def backTurnedCard : Claim7 := { stood := { row := backTurnedRow, standIns := [], harness := (true, "5a74342212fb92bb095edda02a16617c3dad91eb0f555a3594926fee75e29ecd"), looks := true }, kinds := [], alts := [], laidByText := true, laidKinds := [.data, .pinned, .pinned], laidTests := true, laidLooks := .later }
def BackTurnedCardSaid : Prop := Claim7.holds Tryz.pinned (.plain (OpenSpec.ofChange backTurnedSpec)) backTurnedCard

/-- THE TIED CARD OF 'motleylaw13.BackEnds'. -/
def backEndsCard : Claim7 := { stood := { row := backEndsRow, standIns := [], harness := (true, "5a74342212fb92bb095edda02a16617c3dad91eb0f555a3594926fee75e29ecd"), looks := true }, kinds := [], alts := [], laidByText := true, laidKinds := [.data, .pinned, .pinned], laidTests := true, laidLooks := .later }
def BackEndsCardSaid : Prop := Claim7.holds Tryz.pinned (.plain (OpenSpec.ofChange backEndsSpec)) backEndsCard

/-- THE SECOND FORM's CARD OF 'motleylaw12.PatClasses'. -/
def patClassesUptoCard : Claim7 := { stood := { row := patClassesUptoRow, standIns := [], harness := (true, "5a74342212fb92bb095edda02a16617c3dad91eb0f555a3594926fee75e29ecd"), looks := true }, kinds := [], alts := [], laidByText := true, laidKinds := [.data, .data, .data, .data, .pinned, .pinned], laidTests := true, laidLooks := .later }
def PatClassesUptoCardSaid : Prop := Claim7.holds Tryz.pinned (.plain (OpenSpec.upto patClassesSpec)) patClassesUptoCard

/-- THE SECOND FORM's CARD OF 'motleylaw13.BackMatches'. -/
def backMatchesUptoCard : Claim7 := { stood := { row := backMatchesUptoRow, standIns := [], harness := (true, "5a74342212fb92bb095edda02a16617c3dad91eb0f555a3594926fee75e29ecd"), looks := true }, kinds := [], alts := [], laidByText := true, laidKinds := [.data, .pinned, .pinned], laidTests := true, laidLooks := .later }
def BackMatchesUptoCardSaid : Prop := Claim7.holds Tryz.pinned (.plain (OpenSpec.upto backMatchesSpec)) backMatchesUptoCard

/-- THE SECOND FORM's CARD OF 'motleylaw13.BackSearches'. -/
def backSearchesUptoCard : Claim7 := { stood := { row := backSearchesUptoRow, standIns := [], harness := (true, "5a74342212fb92bb095edda02a16617c3dad91eb0f555a3594926fee75e29ecd"), looks := true }, kinds := [], alts := [], laidByText := true, laidKinds := [.data, .pinned, .pinned], laidTests := true, laidLooks := .later }
def BackSearchesUptoCardSaid : Prop := Claim7.holds Tryz.pinned (.plain (OpenSpec.upto backSearchesSpec)) backSearchesUptoCard

/-- THE SECOND FORM's CARD OF 'motleylaw13.BackPossessive'. -/
def backPossessiveUptoCard : Claim7 := { stood := { row := backPossessiveUptoRow, standIns := [], harness := (true, "5a74342212fb92bb095edda02a16617c3dad91eb0f555a3594926fee75e29ecd"), looks := true }, kinds := [], alts := [], laidByText := true, laidKinds := [.data, .pinned, .pinned], laidTests := true, laidLooks := .later }
def BackPossessiveUptoCardSaid : Prop := Claim7.holds Tryz.pinned (.plain (OpenSpec.upto backPossessiveSpec)) backPossessiveUptoCard

/-- THE SECOND FORM's CARD OF 'motleylaw13.BackCodes'. -/
def backCodesUptoCard : Claim7 := { stood := { row := backCodesUptoRow, standIns := [], harness := (true, "5a74342212fb92bb095edda02a16617c3dad91eb0f555a3594926fee75e29ecd"), looks := true }, kinds := [], alts := [], laidByText := true, laidKinds := [.data, .pinned, .pinned], laidTests := true, laidLooks := .later }
def BackCodesUptoCardSaid : Prop := Claim7.holds Tryz.pinned (.plain (OpenSpec.upto backCodesSpec)) backCodesUptoCard

/-- THE SECOND FORM's CARD OF 'motleylaw13.BackLeftmost'. -/
def backLeftmostUptoCard : Claim7 := { stood := { row := backLeftmostUptoRow, standIns := [], harness := (true, "5a74342212fb92bb095edda02a16617c3dad91eb0f555a3594926fee75e29ecd"), looks := true }, kinds := [], alts := [], laidByText := true, laidKinds := [.data, .pinned, .pinned], laidTests := true, laidLooks := .later }
def BackLeftmostUptoCardSaid : Prop := Claim7.holds Tryz.pinned (.plain (OpenSpec.upto backLeftmostSpec)) backLeftmostUptoCard

/-- THE SECOND FORM's CARD OF 'motleylaw13.BackWays'. -/
def backWaysUptoCard : Claim7 := { stood := { row := backWaysUptoRow, standIns := [], harness := (true, "5a74342212fb92bb095edda02a16617c3dad91eb0f555a3594926fee75e29ecd"), looks := true }, kinds := [], alts := [], laidByText := true, laidKinds := [.data, .pinned, .pinned], laidTests := true, laidLooks := .later }
def BackWaysUptoCardSaid : Prop := Claim7.holds Tryz.pinned (.plain (OpenSpec.upto backWaysSpec)) backWaysUptoCard

/-- THE SECOND FORM's CARD OF 'motleylaw13.BackAlls'. -/
def backAllsUptoCard : Claim7 := { stood := { row := backAllsUptoRow, standIns := [], harness := (true, "5a74342212fb92bb095edda02a16617c3dad91eb0f555a3594926fee75e29ecd"), looks := true }, kinds := [], alts := [], laidByText := true, laidKinds := [.data, .pinned, .pinned], laidTests := true, laidLooks := .later }
def BackAllsUptoCardSaid : Prop := Claim7.holds Tryz.pinned (.plain (OpenSpec.upto backAllsSpec)) backAllsUptoCard

/-- THE SECOND FORM's CARD OF 'motleylaw13.BackWholes'. -/
def backWholesUptoCard : Claim7 := { stood := { row := backWholesUptoRow, standIns := [], harness := (true, "5a74342212fb92bb095edda02a16617c3dad91eb0f555a3594926fee75e29ecd"), looks := true }, kinds := [], alts := [], laidByText := true, laidKinds := [.data, .pinned, .pinned], laidTests := true, laidLooks := .later }
def BackWholesUptoCardSaid : Prop := Claim7.holds Tryz.pinned (.plain (OpenSpec.upto backWholesSpec)) backWholesUptoCard

/-- THE SECOND FORM's CARD OF 'motleylaw13.BackTexts'. -/
def backTextsUptoCard : Claim7 := { stood := { row := backTextsUptoRow, standIns := [], harness := (true, "5a74342212fb92bb095edda02a16617c3dad91eb0f555a3594926fee75e29ecd"), looks := true }, kinds := [], alts := [], laidByText := true, laidKinds := [.data, .pinned, .pinned], laidTests := true, laidLooks := .later }
def BackTextsUptoCardSaid : Prop := Claim7.holds Tryz.pinned (.plain (OpenSpec.upto backTextsSpec)) backTextsUptoCard

/-- THE SECOND FORM's CARD OF 'motleylaw13.BackTurned'. -/
def backTurnedUptoCard : Claim7 := { stood := { row := backTurnedUptoRow, standIns := [], harness := (true, "5a74342212fb92bb095edda02a16617c3dad91eb0f555a3594926fee75e29ecd"), looks := true }, kinds := [], alts := [], laidByText := true, laidKinds := [.data, .pinned, .pinned], laidTests := true, laidLooks := .later }
def BackTurnedUptoCardSaid : Prop := Claim7.holds Tryz.pinned (.plain (OpenSpec.upto backTurnedSpec)) backTurnedUptoCard

/-- THE SECOND FORM's CARD OF 'motleylaw13.BackEnds'. -/
def backEndsUptoCard : Claim7 := { stood := { row := backEndsUptoRow, standIns := [], harness := (true, "5a74342212fb92bb095edda02a16617c3dad91eb0f555a3594926fee75e29ecd"), looks := true }, kinds := [], alts := [], laidByText := true, laidKinds := [.data, .pinned, .pinned], laidTests := true, laidLooks := .later }
def BackEndsUptoCardSaid : Prop := Claim7.holds Tryz.pinned (.plain (OpenSpec.upto backEndsSpec)) backEndsUptoCard
end Rows
end Go.Proofs.YtpopmiodjibljaaGreatDoor
