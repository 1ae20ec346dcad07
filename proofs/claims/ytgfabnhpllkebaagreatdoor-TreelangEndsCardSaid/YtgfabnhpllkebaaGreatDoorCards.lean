/-
  DERIVED. GIVEN WITH THE SEED: THE CARDS: each row of YtgfabnhpllkebaaGreatDoorRows.lean that lists a variable, with what it lists TIED to the program's text (the seventh form; the later family's looks); each row that meets fmt, with fmt's text TOLD by the authors' own Lean function (tested against real Go, not proved from fmt's source: count such statements apart). THE CARD IS WHAT COUNTS. Prove the row's statement (the work); the ties are given (YtgfabnhpllkebaaGreatDoorTie.lean); close each card by the builder's one call (the guide's Derived/Test/ToyasCard.lean, 'card_holds'). Laid BY PROGRAM, IN A SANDBOX (cutbox-door.mjs). By AI agents, Wed Nov 11 2026. No macro, syntax, notation, axiom, sorry.
-/
import Derived.Test.YtgfabnhpllkebaaGreatDoorRows
import GoSem.ClaimSeven
namespace Go.Proofs.YtgfabnhpllkebaaGreatDoor
namespace Rows

/-- THE TIED CARD OF 'casebooklaw20.TreelangEquivalents'. -/
def treelangEquivalentsCard : Claim7 := { stood := { row := treelangEquivalentsRow, standIns := [], harness := (true, "d133bb2d3d0f20961a3e595e232f457ecd06b650df3192c7cb126113f40c6967"), looks := true }, kinds := [], alts := [], laidByText := true, laidKinds := [.data, .data, .data], laidTests := true, laidLooks := .later }
def TreelangEquivalentsCardSaid : Prop := Claim7.holds Tryz.pinned (.plain (OpenSpec.ofChange treelangEquivalentsSpec)) treelangEquivalentsCard

/-- THE TIED CARD OF 'casebooklaw20.TreelangAutos'. -/
def treelangAutosCard : Claim7 := { stood := { row := treelangAutosRow, standIns := [], harness := (true, "d133bb2d3d0f20961a3e595e232f457ecd06b650df3192c7cb126113f40c6967"), looks := true }, kinds := [], alts := [], laidByText := true, laidKinds := [.data, .data, .data], laidTests := true, laidLooks := .later }
def TreelangAutosCardSaid : Prop := Claim7.holds Tryz.pinned (.plain (OpenSpec.ofChange treelangAutosSpec)) treelangAutosCard

/-- THE TIED CARD OF 'casebooklaw20.TreelangAccepts'. -/
def treelangAcceptsCard : Claim7 := { stood := { row := treelangAcceptsRow, standIns := [], harness := (true, "d133bb2d3d0f20961a3e595e232f457ecd06b650df3192c7cb126113f40c6967"), looks := true }, kinds := [], alts := [], laidByText := true, laidKinds := [.data, .data, .data], laidTests := true, laidLooks := .later }
def TreelangAcceptsCardSaid : Prop := Claim7.holds Tryz.pinned (.plain (OpenSpec.ofChange treelangAcceptsSpec)) treelangAcceptsCard

/-- THE TIED CARD OF 'casebooklaw20.TreelangChoice'. -/
def treelangChoiceCard : Claim7 := { stood := { row := treelangChoiceRow, standIns := [], harness := (true, "d133bb2d3d0f20961a3e595e232f457ecd06b650df3192c7cb126113f40c6967"), looks := true }, kinds := [], alts := [], laidByText := true, laidKinds := [.data, .data, .data], laidTests := true, laidLooks := .later }
def TreelangChoiceCardSaid : Prop := Claim7.holds Tryz.pinned (.plain (OpenSpec.ofChange treelangChoiceSpec)) treelangChoiceCard

/-- THE TIED CARD OF 'casebooklaw20.TreelangEnds'. -/
def treelangEndsCard : Claim7 := { stood := { row := treelangEndsRow, standIns := [], harness := (true, "d133bb2d3d0f20961a3e595e232f457ecd06b650df3192c7cb126113f40c6967"), looks := true }, kinds := [], alts := [], laidByText := true, laidKinds := [.data, .data, .data], laidTests := true, laidLooks := .later }
def TreelangEndsCardSaid : Prop := Claim7.holds Tryz.pinned (.plain (OpenSpec.ofChange treelangEndsSpec)) treelangEndsCard

/-- THE TIED CARD OF 'casebooklaw20.TreelangNormal'. -/
def treelangNormalCard : Claim7 := { stood := { row := treelangNormalRow, standIns := [], harness := (true, "d133bb2d3d0f20961a3e595e232f457ecd06b650df3192c7cb126113f40c6967"), looks := true }, kinds := [], alts := [], laidByText := true, laidKinds := [.data, .data, .data], laidTests := true, laidLooks := .later }
def TreelangNormalCardSaid : Prop := Claim7.holds Tryz.pinned (.plain (OpenSpec.ofChange treelangNormalSpec)) treelangNormalCard

/-- THE TIED CARD OF 'casebooklaw19.PtreeKeeps'. -/
def ptreeKeepsCard : Claim7 := { stood := { row := ptreeKeepsRow, standIns := [], harness := (true, "d133bb2d3d0f20961a3e595e232f457ecd06b650df3192c7cb126113f40c6967"), looks := true }, kinds := [], alts := [], laidByText := true, laidKinds := [.data, .data, .data, .sentinel, .sentinel], laidTests := true, laidLooks := .later }
def PtreeKeepsCardSaid : Prop := Claim7.holds Tryz.pinned (.plain (OpenSpec.ofChange ptreeKeepsSpec)) ptreeKeepsCard

/-- THE SECOND FORM's CARD OF 'casebooklaw20.TreelangEquivalents'. -/
def treelangEquivalentsUptoCard : Claim7 := { stood := { row := treelangEquivalentsUptoRow, standIns := [], harness := (true, "d133bb2d3d0f20961a3e595e232f457ecd06b650df3192c7cb126113f40c6967"), looks := true }, kinds := [], alts := [], laidByText := true, laidKinds := [.data, .data, .data], laidTests := true, laidLooks := .later }
def TreelangEquivalentsUptoCardSaid : Prop := Claim7.holds Tryz.pinned (.plain (OpenSpec.upto treelangEquivalentsSpec)) treelangEquivalentsUptoCard

/-- THE SECOND FORM's CARD OF 'casebooklaw20.TreelangAutos'. -/
def treelangAutosUptoCard : Claim7 := { stood := { row := treelangAutosUptoRow, standIns := [], harness := (true, "d133bb2d3d0f20961a3e595e232f457ecd06b650df3192c7cb126113f40c6967"), looks := true }, kinds := [], alts := [], laidByText := true, laidKinds := [.data, .data, .data], laidTests := true, laidLooks := .later }
def TreelangAutosUptoCardSaid : Prop := Claim7.holds Tryz.pinned (.plain (OpenSpec.upto treelangAutosSpec)) treelangAutosUptoCard

/-- THE SECOND FORM's CARD OF 'casebooklaw20.TreelangAccepts'. -/
def treelangAcceptsUptoCard : Claim7 := { stood := { row := treelangAcceptsUptoRow, standIns := [], harness := (true, "d133bb2d3d0f20961a3e595e232f457ecd06b650df3192c7cb126113f40c6967"), looks := true }, kinds := [], alts := [], laidByText := true, laidKinds := [.data, .data, .data], laidTests := true, laidLooks := .later }
def TreelangAcceptsUptoCardSaid : Prop := Claim7.holds Tryz.pinned (.plain (OpenSpec.upto treelangAcceptsSpec)) treelangAcceptsUptoCard

/-- THE SECOND FORM's CARD OF 'casebooklaw20.TreelangChoice'. -/
def treelangChoiceUptoCard : Claim7 := { stood := { row := treelangChoiceUptoRow, standIns := [], harness := (true, "d133bb2d3d0f20961a3e595e232f457ecd06b650df3192c7cb126113f40c6967"), looks := true }, kinds := [], alts := [], laidByText := true, laidKinds := [.data, .data, .data], laidTests := true, laidLooks := .later }
def TreelangChoiceUptoCardSaid : Prop := Claim7.holds Tryz.pinned (.plain (OpenSpec.upto treelangChoiceSpec)) treelangChoiceUptoCard

/-- THE SECOND FORM's CARD OF 'casebooklaw20.TreelangEnds'. -/
def treelangEndsUptoCard : Claim7 := { stood := { row := treelangEndsUptoRow, standIns := [], harness := (true, "d133bb2d3d0f20961a3e595e232f457ecd06b650df3192c7cb126113f40c6967"), looks := true }, kinds := [], alts := [], laidByText := true, laidKinds := [.data, .data, .data], laidTests := true, laidLooks := .later }
def TreelangEndsUptoCardSaid : Prop := Claim7.holds Tryz.pinned (.plain (OpenSpec.upto treelangEndsSpec)) treelangEndsUptoCard

/-- THE SECOND FORM's CARD OF 'casebooklaw20.TreelangNormal'. -/
def treelangNormalUptoCard : Claim7 := { stood := { row := treelangNormalUptoRow, standIns := [], harness := (true, "d133bb2d3d0f20961a3e595e232f457ecd06b650df3192c7cb126113f40c6967"), looks := true }, kinds := [], alts := [], laidByText := true, laidKinds := [.data, .data, .data], laidTests := true, laidLooks := .later }
def TreelangNormalUptoCardSaid : Prop := Claim7.holds Tryz.pinned (.plain (OpenSpec.upto treelangNormalSpec)) treelangNormalUptoCard

/-- THE SECOND FORM's CARD OF 'casebooklaw19.PtreeKeeps'. -/
def ptreeKeepsUptoCard : Claim7 := { stood := { row := ptreeKeepsUptoRow, standIns := [], harness := (true, "d133bb2d3d0f20961a3e595e232f457ecd06b650df3192c7cb126113f40c6967"), looks := true }, kinds := [], alts := [], laidByText := true, laidKinds := [.data, .data, .data, .sentinel, .sentinel], laidTests := true, laidLooks := .later }
def PtreeKeepsUptoCardSaid : Prop := Claim7.holds Tryz.pinned (.plain (OpenSpec.upto ptreeKeepsSpec)) ptreeKeepsUptoCard
end Rows
end Go.Proofs.YtgfabnhpllkebaaGreatDoor
