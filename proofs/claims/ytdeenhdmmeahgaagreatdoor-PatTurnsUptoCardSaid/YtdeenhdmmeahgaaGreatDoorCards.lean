/-
  DERIVED. GIVEN WITH THE SEED: THE CARDS: each row of YtdeenhdmmeahgaaGreatDoorRows.lean that lists a variable, with what it lists TIED to the program's text (the seventh form; the later family's looks); each row that meets fmt, with fmt's text TOLD by the authors' own Lean function (tested against real Go, not proved from fmt's source: count such statements apart). THE CARD IS WHAT COUNTS. Prove the row's statement (the work); the ties are given (YtdeenhdmmeahgaaGreatDoorTie.lean); close each card by the builder's one call (the guide's Derived/Test/ToyasCard.lean, 'card_holds'). Laid BY PROGRAM, IN A SANDBOX (cutbox-door.mjs). By AI agents, Wed Nov 11 2026. No macro, syntax, notation, axiom, sorry.
-/
import Derived.Test.YtdeenhdmmeahgaaGreatDoorRows
import GoSem.ClaimSeven
namespace Go.Proofs.YtdeenhdmmeahgaaGreatDoor
namespace Rows

/-- THE TIED CARD OF 'motleylaw15.MemoUnrolls'. -/
def memoUnrollsCard : Claim7 := { stood := { row := memoUnrollsRow, standIns := [], harness := (true, "f843cff98c97b2be7108fbaaf604023e78a31e60439a1bfc4a5b91b5f07d37b5"), looks := true }, kinds := [], alts := [], laidByText := true, laidKinds := [.data, .pinned], laidTests := true, laidLooks := .later }
def MemoUnrollsCardSaid : Prop := Claim7.holds Tryz.pinned (.plain (OpenSpec.ofChange memoUnrollsSpec)) memoUnrollsCard

/-- THE TIED CARD OF 'motleylaw12.PatSames'. -/
def patSamesCard : Claim7 := { stood := { row := patSamesRow, standIns := [], harness := (true, "f843cff98c97b2be7108fbaaf604023e78a31e60439a1bfc4a5b91b5f07d37b5"), looks := true }, kinds := [], alts := [], laidByText := true, laidKinds := [.data, .data, .data, .data, .pinned, .pinned], laidTests := true, laidLooks := .later }
def PatSamesCardSaid : Prop := Claim7.holds Tryz.pinned (.plain (OpenSpec.ofChange patSamesSpec)) patSamesCard

/-- THE TIED CARD OF 'motleylaw12.PatNames'. -/
def patNamesCard : Claim7 := { stood := { row := patNamesRow, standIns := [], harness := (true, "f843cff98c97b2be7108fbaaf604023e78a31e60439a1bfc4a5b91b5f07d37b5"), looks := true }, kinds := [], alts := [], laidByText := true, laidKinds := [.data, .data, .data, .data, .pinned, .pinned], laidTests := true, laidLooks := .later }
def PatNamesCardSaid : Prop := Claim7.holds Tryz.pinned (.plain (OpenSpec.ofChange patNamesSpec)) patNamesCard

/-- THE TIED CARD OF 'motleylaw12.PatChecks'. -/
def patChecksCard : Claim7 := { stood := { row := patChecksRow, standIns := [], harness := (true, "f843cff98c97b2be7108fbaaf604023e78a31e60439a1bfc4a5b91b5f07d37b5"), looks := true }, kinds := [], alts := [], laidByText := true, laidKinds := [.data, .data, .data, .data, .pinned, .pinned], laidTests := true, laidLooks := .later }
def PatChecksCardSaid : Prop := Claim7.holds Tryz.pinned (.plain (OpenSpec.ofChange patChecksSpec)) patChecksCard

/-- THE TIED CARD OF 'motleylaw12.PatTurns'. -/
def patTurnsCard : Claim7 := { stood := { row := patTurnsRow, standIns := [], harness := (true, "f843cff98c97b2be7108fbaaf604023e78a31e60439a1bfc4a5b91b5f07d37b5"), looks := true }, kinds := [], alts := [], laidByText := true, laidKinds := [.data, .data, .data, .data, .pinned, .pinned], laidTests := true, laidLooks := .later }
def PatTurnsCardSaid : Prop := Claim7.holds Tryz.pinned (.plain (OpenSpec.ofChange patTurnsSpec)) patTurnsCard

/-- THE SECOND FORM's CARD OF 'motleylaw15.MemoUnrolls'. -/
def memoUnrollsUptoCard : Claim7 := { stood := { row := memoUnrollsUptoRow, standIns := [], harness := (true, "f843cff98c97b2be7108fbaaf604023e78a31e60439a1bfc4a5b91b5f07d37b5"), looks := true }, kinds := [], alts := [], laidByText := true, laidKinds := [.data, .pinned], laidTests := true, laidLooks := .later }
def MemoUnrollsUptoCardSaid : Prop := Claim7.holds Tryz.pinned (.plain (OpenSpec.upto memoUnrollsSpec)) memoUnrollsUptoCard

/-- THE SECOND FORM's CARD OF 'motleylaw12.PatSames'. -/
def patSamesUptoCard : Claim7 := { stood := { row := patSamesUptoRow, standIns := [], harness := (true, "f843cff98c97b2be7108fbaaf604023e78a31e60439a1bfc4a5b91b5f07d37b5"), looks := true }, kinds := [], alts := [], laidByText := true, laidKinds := [.data, .data, .data, .data, .pinned, .pinned], laidTests := true, laidLooks := .later }
def PatSamesUptoCardSaid : Prop := Claim7.holds Tryz.pinned (.plain (OpenSpec.upto patSamesSpec)) patSamesUptoCard

/-- THE SECOND FORM's CARD OF 'motleylaw12.PatNames'. -/
def patNamesUptoCard : Claim7 := { stood := { row := patNamesUptoRow, standIns := [], harness := (true, "f843cff98c97b2be7108fbaaf604023e78a31e60439a1bfc4a5b91b5f07d37b5"), looks := true }, kinds := [], alts := [], laidByText := true, laidKinds := [.data, .data, .data, .data, .pinned, .pinned], laidTests := true, laidLooks := .later }
def PatNamesUptoCardSaid : Prop := Claim7.holds Tryz.pinned (.plain (OpenSpec.upto patNamesSpec)) patNamesUptoCard

/-- THE SECOND FORM's CARD OF 'motleylaw12.PatChecks'. -/
def patChecksUptoCard : Claim7 := { stood := { row := patChecksUptoRow, standIns := [], harness := (true, "f843cff98c97b2be7108fbaaf604023e78a31e60439a1bfc4a5b91b5f07d37b5"), looks := true }, kinds := [], alts := [], laidByText := true, laidKinds := [.data, .data, .data, .data, .pinned, .pinned], laidTests := true, laidLooks := .later }
def PatChecksUptoCardSaid : Prop := Claim7.holds Tryz.pinned (.plain (OpenSpec.upto patChecksSpec)) patChecksUptoCard

/-- THE SECOND FORM's CARD OF 'motleylaw12.PatTurns'. -/
def patTurnsUptoCard : Claim7 := { stood := { row := patTurnsUptoRow, standIns := [], harness := (true, "f843cff98c97b2be7108fbaaf604023e78a31e60439a1bfc4a5b91b5f07d37b5"), looks := true }, kinds := [], alts := [], laidByText := true, laidKinds := [.data, .data, .data, .data, .pinned, .pinned], laidTests := true, laidLooks := .later }
def PatTurnsUptoCardSaid : Prop := Claim7.holds Tryz.pinned (.plain (OpenSpec.upto patTurnsSpec)) patTurnsUptoCard
end Rows
end Go.Proofs.YtdeenhdmmeahgaaGreatDoor
