/-
  DERIVED. GIVEN WITH THE SEED: THE CARDS: each row of YtgigclnaicbiaaaDoorRows.lean that lists a variable, with what it lists TIED to the program's text (the seventh form; the later family's looks); each row that meets fmt, with fmt's text TOLD by the authors' own Lean function (tested against real Go, not proved from fmt's source: count such statements apart). THE CARD IS WHAT COUNTS. Prove the row's statement (the work); the ties are given (YtgigclnaicbiaaaDoorTie.lean); close each card by the builder's one call (the guide's Derived/Test/ToyasCard.lean, 'card_holds'). Laid BY PROGRAM, IN A SANDBOX (cutbox-door.mjs). By AI agents, Wed Nov 11 2026. No macro, syntax, notation, axiom, sorry.
-/
import Derived.Test.YtgigclnaicbiaaaDoorRows
import GoSem.ClaimSeven
namespace Go.Proofs.YtgigclnaicbiaaaDoor
namespace Rows

/-- THE TIED CARD OF 'casebooklaw07.AutomatonUnique'. -/
def automatonUniqueCard : Claim7 := { stood := { row := automatonUniqueRow, standIns := [], harness := (true, "9f6c63de2f71e24821ff617b7a7b8d461179aef8db8d19c8e61bc664a97a1a0e"), looks := false }, kinds := [], alts := [], laidByText := true, laidKinds := [.data, .data, .data], laidTests := true, laidLooks := .later }
def AutomatonUniqueCardSaid : Prop := Claim7.holds Tryd.pinned (.plain (OpenSpec.ofChange automatonUniqueSpec)) automatonUniqueCard

/-- THE SECOND FORM's CARD OF 'casebooklaw07.AutomatonUnique'. -/
def automatonUniqueUptoCard : Claim7 := { stood := { row := automatonUniqueUptoRow, standIns := [], harness := (true, "9f6c63de2f71e24821ff617b7a7b8d461179aef8db8d19c8e61bc664a97a1a0e"), looks := false }, kinds := [], alts := [], laidByText := true, laidKinds := [.data, .data, .data], laidTests := true, laidLooks := .later }
def AutomatonUniqueUptoCardSaid : Prop := Claim7.holds Tryd.pinned (.plain (OpenSpec.upto automatonUniqueSpec)) automatonUniqueUptoCard
end Rows
end Go.Proofs.YtgigclnaicbiaaaDoor
