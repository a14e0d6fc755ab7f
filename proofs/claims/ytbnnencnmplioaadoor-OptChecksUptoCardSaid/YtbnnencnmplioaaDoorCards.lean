/-
  DERIVED. GIVEN WITH THE SEED: THE CARDS: each row of YtbnnencnmplioaaDoorRows.lean that lists a variable, with what it lists TIED to the program's text (the seventh form; the later family's looks); each row that meets fmt, with fmt's text TOLD by the authors' own Lean function (tested against real Go, not proved from fmt's source: count such statements apart). THE CARD IS WHAT COUNTS. Prove the row's statement (the work); the ties are given (YtbnnencnmplioaaDoorTie.lean); close each card by the builder's one call (the guide's Derived/Test/ToyasCard.lean, 'card_holds'). Laid BY PROGRAM, IN A SANDBOX (cutbox-door.mjs). By AI agents, Wed Nov 11 2026. No macro, syntax, notation, axiom, sorry.
-/
import Derived.Test.YtbnnencnmplioaaDoorRows
import GoSem.ClaimSeven
namespace Go.Proofs.YtbnnencnmplioaaDoor
namespace Rows

/-- THE TIED CARD OF 'motleylaw14.OptChecks'. -/
def optChecksCard : Claim7 := { stood := { row := optChecksRow, standIns := [], harness := (true, "1391c34efd46cb6166152a9f3ad7c2ec63ab4958bcb973d4296dae6f02e71d8e"), looks := false }, kinds := [], alts := [], laidByText := true, laidKinds := [.data, .pinned], laidTests := true, laidLooks := .later }
def OptChecksCardSaid : Prop := Claim7.holds Tryd.pinned (.plain (OpenSpec.ofChange optChecksSpec)) optChecksCard

/-- THE SECOND FORM's CARD OF 'motleylaw14.OptChecks'. -/
def optChecksUptoCard : Claim7 := { stood := { row := optChecksUptoRow, standIns := [], harness := (true, "1391c34efd46cb6166152a9f3ad7c2ec63ab4958bcb973d4296dae6f02e71d8e"), looks := false }, kinds := [], alts := [], laidByText := true, laidKinds := [.data, .pinned], laidTests := true, laidLooks := .later }
def OptChecksUptoCardSaid : Prop := Claim7.holds Tryd.pinned (.plain (OpenSpec.upto optChecksSpec)) optChecksUptoCard
end Rows
end Go.Proofs.YtbnnencnmplioaaDoor
