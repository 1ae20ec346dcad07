/-
  DERIVED. GIVEN WITH THE SEED: THE CARDS: each row of YtbfilfhgcihhoaaGreatDoorRows.lean that lists a variable, with what it lists TIED to the program's text (the seventh form; the later family's looks); each row that meets fmt, with fmt's text TOLD by the authors' own Lean function (tested against real Go, not proved from fmt's source: count such statements apart). THE CARD IS WHAT COUNTS. Prove the row's statement (the work); the ties are given (YtbfilfhgcihhoaaGreatDoorTie.lean); close each card by the builder's one call (the guide's Derived/Test/ToyasCard.lean, 'card_holds'). Laid BY PROGRAM, IN A SANDBOX (cutbox-door.mjs). By AI agents, Wed Nov 11 2026. No macro, syntax, notation, axiom, sorry.
-/
import Derived.Test.YtbfilfhgcihhoaaGreatDoorRows
import GoSem.ClaimSeven
namespace Go.Proofs.YtbfilfhgcihhoaaGreatDoor
namespace Rows

/-- THE TIED CARD OF 'casebooklaw19.PtreeTexts'. -/
def ptreeTextsCard : Claim7 := { stood := { row := ptreeTextsRow, standIns := [], harness := (true, "bf4d67d73641d4f034df78d885c25238f558542237bf53ee44e2927db7ea3ef6"), looks := true }, kinds := [], alts := [], laidByText := true, laidKinds := [.data, .data, .data, .sentinel, .sentinel], laidTests := true, laidLooks := .later }
def PtreeTextsCardSaid : Prop := Claim7.holds Tryz.pinned (.plain (OpenSpec.ofChange ptreeTextsSpec)) ptreeTextsCard

/-- THE TIED CARD OF 'casebooklaw19.PtreeNormal'. -/
def ptreeNormalCard : Claim7 := { stood := { row := ptreeNormalRow, standIns := [], harness := (true, "bf4d67d73641d4f034df78d885c25238f558542237bf53ee44e2927db7ea3ef6"), looks := true }, kinds := [], alts := [], laidByText := true, laidKinds := [.data, .data, .data, .sentinel, .sentinel], laidTests := true, laidLooks := .later }
def PtreeNormalCardSaid : Prop := Claim7.holds Tryz.pinned (.plain (OpenSpec.ofChange ptreeNormalSpec)) ptreeNormalCard

/-- THE TIED CARD OF 'casebooklaw19.PtreeBack'. -/
def ptreeBackCard : Claim7 := { stood := { row := ptreeBackRow, standIns := [], harness := (true, "bf4d67d73641d4f034df78d885c25238f558542237bf53ee44e2927db7ea3ef6"), looks := true }, kinds := [], alts := [], laidByText := true, laidKinds := [.data, .data, .data, .sentinel, .sentinel], laidTests := true, laidLooks := .later }
def PtreeBackCardSaid : Prop := Claim7.holds Tryz.pinned (.plain (OpenSpec.ofChange ptreeBackSpec)) ptreeBackCard

/-- THE TIED CARD OF 'casebooklaw19.PtreeSame'. -/
def ptreeSameCard : Claim7 := { stood := { row := ptreeSameRow, standIns := [], harness := (true, "bf4d67d73641d4f034df78d885c25238f558542237bf53ee44e2927db7ea3ef6"), looks := true }, kinds := [], alts := [], laidByText := true, laidKinds := [.data, .data, .data, .sentinel, .sentinel], laidTests := true, laidLooks := .later }
def PtreeSameCardSaid : Prop := Claim7.holds Tryz.pinned (.plain (OpenSpec.ofChange ptreeSameSpec)) ptreeSameCard

/-- THE TIED CARD OF 'casebooklaw19.PtreeOrder'. -/
def ptreeOrderCard : Claim7 := { stood := { row := ptreeOrderRow, standIns := [], harness := (true, "bf4d67d73641d4f034df78d885c25238f558542237bf53ee44e2927db7ea3ef6"), looks := true }, kinds := [], alts := [], laidByText := true, laidKinds := [.data, .data, .data, .sentinel, .sentinel], laidTests := true, laidLooks := .later }
def PtreeOrderCardSaid : Prop := Claim7.holds Tryz.pinned (.plain (OpenSpec.ofChange ptreeOrderSpec)) ptreeOrderCard

/-- THE TIED CARD OF 'casebooklaw19.PtreeReduces'. -/
def ptreeReducesCard : Claim7 := { stood := { row := ptreeReducesRow, standIns := [], harness := (true, "bf4d67d73641d4f034df78d885c25238f558542237bf53ee44e2927db7ea3ef6"), looks := true }, kinds := [], alts := [], laidByText := true, laidKinds := [.data, .data, .data, .sentinel, .sentinel], laidTests := true, laidLooks := .later }
def PtreeReducesCardSaid : Prop := Claim7.holds Tryz.pinned (.plain (OpenSpec.ofChange ptreeReducesSpec)) ptreeReducesCard

/-- THE SECOND FORM's CARD OF 'casebooklaw19.PtreeTexts'. -/
def ptreeTextsUptoCard : Claim7 := { stood := { row := ptreeTextsUptoRow, standIns := [], harness := (true, "bf4d67d73641d4f034df78d885c25238f558542237bf53ee44e2927db7ea3ef6"), looks := true }, kinds := [], alts := [], laidByText := true, laidKinds := [.data, .data, .data, .sentinel, .sentinel], laidTests := true, laidLooks := .later }
def PtreeTextsUptoCardSaid : Prop := Claim7.holds Tryz.pinned (.plain (OpenSpec.upto ptreeTextsSpec)) ptreeTextsUptoCard

/-- THE SECOND FORM's CARD OF 'casebooklaw19.PtreeNormal'. -/
def ptreeNormalUptoCard : Claim7 := { stood := { row := ptreeNormalUptoRow, standIns := [], harness := (true, "bf4d67d73641d4f034df78d885c25238f558542237bf53ee44e2927db7ea3ef6"), looks := true }, kinds := [], alts := [], laidByText := true, laidKinds := [.data, .data, .data, .sentinel, .sentinel], laidTests := true, laidLooks := .later }
def PtreeNormalUptoCardSaid : Prop := Claim7.holds Tryz.pinned (.plain (OpenSpec.upto ptreeNormalSpec)) ptreeNormalUptoCard

/-- THE SECOND FORM's CARD OF 'casebooklaw19.PtreeBack'. -/
def ptreeBackUptoCard : Claim7 := { stood := { row := ptreeBackUptoRow, standIns := [], harness := (true, "bf4d67d73641d4f034df78d885c25238f558542237bf53ee44e2927db7ea3ef6"), looks := true }, kinds := [], alts := [], laidByText := true, laidKinds := [.data, .data, .data, .sentinel, .sentinel], laidTests := true, laidLooks := .later }
def PtreeBackUptoCardSaid : Prop := Claim7.holds Tryz.pinned (.plain (OpenSpec.upto ptreeBackSpec)) ptreeBackUptoCard

/-- THE SECOND FORM's CARD OF 'casebooklaw19.PtreeSame'. -/
def ptreeSameUptoCard : Claim7 := { stood := { row := ptreeSameUptoRow, standIns := [], harness := (true, "bf4d67d73641d4f034df78d885c25238f558542237bf53ee44e2927db7ea3ef6"), looks := true }, kinds := [], alts := [], laidByText := true, laidKinds := [.data, .data, .data, .sentinel, .sentinel], laidTests := true, laidLooks := .later }
def PtreeSameUptoCardSaid : Prop := Claim7.holds Tryz.pinned (.plain (OpenSpec.upto ptreeSameSpec)) ptreeSameUptoCard

/-- THE SECOND FORM's CARD OF 'casebooklaw19.PtreeOrder'. -/
def ptreeOrderUptoCard : Claim7 := { stood := { row := ptreeOrderUptoRow, standIns := [], harness := (true, "bf4d67d73641d4f034df78d885c25238f558542237bf53ee44e2927db7ea3ef6"), looks := true }, kinds := [], alts := [], laidByText := true, laidKinds := [.data, .data, .data, .sentinel, .sentinel], laidTests := true, laidLooks := .later }
def PtreeOrderUptoCardSaid : Prop := Claim7.holds Tryz.pinned (.plain (OpenSpec.upto ptreeOrderSpec)) ptreeOrderUptoCard

/-- THE SECOND FORM's CARD OF 'casebooklaw19.PtreeReduces'. -/
def ptreeReducesUptoCard : Claim7 := { stood := { row := ptreeReducesUptoRow, standIns := [], harness := (true, "bf4d67d73641d4f034df78d885c25238f558542237bf53ee44e2927db7ea3ef6"), looks := true }, kinds := [], alts := [], laidByText := true, laidKinds := [.data, .data, .data, .sentinel, .sentinel], laidTests := true, laidLooks := .later }
def PtreeReducesUptoCardSaid : Prop := Claim7.holds Tryz.pinned (.plain (OpenSpec.upto ptreeReducesSpec)) ptreeReducesUptoCard
end Rows
end Go.Proofs.YtbfilfhgcihhoaaGreatDoor
