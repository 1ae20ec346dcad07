/-
  DERIVED. GIVEN WITH THE SEED: THE CARDS: each row of YtgigclnaicbiaaaGreatDoorRows.lean that lists a variable, with what it lists TIED to the program's text (the seventh form; the later family's looks); each row that meets fmt, with fmt's text TOLD by the authors' own Lean function (tested against real Go, not proved from fmt's source: count such statements apart). THE CARD IS WHAT COUNTS. Prove the row's statement (the work); the ties are given (YtgigclnaicbiaaaGreatDoorTie.lean); close each card by the builder's one call (the guide's Derived/Test/ToyasCard.lean, 'card_holds'). Laid BY PROGRAM, IN A SANDBOX (cutbox-door.mjs). By AI agents, Wed Nov 11 2026. No macro, syntax, notation, axiom, sorry.
-/
import Derived.Test.YtgigclnaicbiaaaGreatDoorRows
import GoSem.ClaimSeven
namespace Go.Proofs.YtgigclnaicbiaaaGreatDoor
namespace Rows

/-- THE TIED CARD OF 'casebooklaw07.AutomatonLists'. -/
def automatonListsCard : Claim7 := { stood := { row := automatonListsRow, standIns := [], harness := (true, "2585bfa7b4d18ff47efb39c6386b51e59aabb353e795154ea7edb69de7444229"), looks := false }, kinds := [], alts := [], laidByText := true, laidKinds := [.data, .data, .data], laidTests := true, laidLooks := .later }
def AutomatonListsCardSaid : Prop := Claim7.holds Tryz.pinned (.plain (OpenSpec.ofChange automatonListsSpec)) automatonListsCard

/-- THE TIED CARD OF 'casebooklaw07.AutomatonProducts'. -/
def automatonProductsCard : Claim7 := { stood := { row := automatonProductsRow, standIns := [], harness := (true, "2585bfa7b4d18ff47efb39c6386b51e59aabb353e795154ea7edb69de7444229"), looks := false }, kinds := [], alts := [], laidByText := true, laidKinds := [.data, .data, .data], laidTests := true, laidLooks := .later }
def AutomatonProductsCardSaid : Prop := Claim7.holds Tryz.pinned (.plain (OpenSpec.ofChange automatonProductsSpec)) automatonProductsCard

/-- THE TIED CARD OF 'casebooklaw07.AutomatonForms'. -/
def automatonFormsCard : Claim7 := { stood := { row := automatonFormsRow, standIns := [], harness := (true, "2585bfa7b4d18ff47efb39c6386b51e59aabb353e795154ea7edb69de7444229"), looks := false }, kinds := [], alts := [], laidByText := true, laidKinds := [.data, .data, .data], laidTests := true, laidLooks := .later }
def AutomatonFormsCardSaid : Prop := Claim7.holds Tryz.pinned (.plain (OpenSpec.ofChange automatonFormsSpec)) automatonFormsCard

/-- THE TIED CARD OF 'casebooklaw07.AutomatonMinimal'. -/
def automatonMinimalCard : Claim7 := { stood := { row := automatonMinimalRow, standIns := [], harness := (true, "2585bfa7b4d18ff47efb39c6386b51e59aabb353e795154ea7edb69de7444229"), looks := false }, kinds := [], alts := [], laidByText := true, laidKinds := [.data, .data, .data], laidTests := true, laidLooks := .later }
def AutomatonMinimalCardSaid : Prop := Claim7.holds Tryz.pinned (.plain (OpenSpec.ofChange automatonMinimalSpec)) automatonMinimalCard

/-- THE TIED CARD OF 'casebooklaw07.AutomatonFinds'. -/
def automatonFindsCard : Claim7 := { stood := { row := automatonFindsRow, standIns := [], harness := (true, "2585bfa7b4d18ff47efb39c6386b51e59aabb353e795154ea7edb69de7444229"), looks := false }, kinds := [], alts := [], laidByText := true, laidKinds := [.data, .data, .data], laidTests := true, laidLooks := .later }
def AutomatonFindsCardSaid : Prop := Claim7.holds Tryz.pinned (.plain (OpenSpec.ofChange automatonFindsSpec)) automatonFindsCard

/-- THE TIED CARD OF 'casebooklaw07.AutomatonShuffles'. -/
def automatonShufflesCard : Claim7 := { stood := { row := automatonShufflesRow, standIns := [], harness := (true, "2585bfa7b4d18ff47efb39c6386b51e59aabb353e795154ea7edb69de7444229"), looks := false }, kinds := [], alts := [], laidByText := true, laidKinds := [.data, .data, .data], laidTests := true, laidLooks := .later }
def AutomatonShufflesCardSaid : Prop := Claim7.holds Tryz.pinned (.plain (OpenSpec.ofChange automatonShufflesSpec)) automatonShufflesCard

/-- THE TIED CARD OF 'casebooklaw07.AutomatonFirst'. -/
def automatonFirstCard : Claim7 := { stood := { row := automatonFirstRow, standIns := [], harness := (true, "2585bfa7b4d18ff47efb39c6386b51e59aabb353e795154ea7edb69de7444229"), looks := false }, kinds := [], alts := [], laidByText := true, laidKinds := [.data, .data, .data], laidTests := true, laidLooks := .later }
def AutomatonFirstCardSaid : Prop := Claim7.holds Tryz.pinned (.plain (OpenSpec.ofChange automatonFirstSpec)) automatonFirstCard

/-- THE TIED CARD OF 'casebooklaw07.AutomatonBuilds'. -/
def automatonBuildsCard : Claim7 := { stood := { row := automatonBuildsRow, standIns := [], harness := (true, "2585bfa7b4d18ff47efb39c6386b51e59aabb353e795154ea7edb69de7444229"), looks := false }, kinds := [], alts := [], laidByText := true, laidKinds := [.data, .data, .data], laidTests := true, laidLooks := .later }
def AutomatonBuildsCardSaid : Prop := Claim7.holds Tryz.pinned (.plain (OpenSpec.ofChange automatonBuildsSpec)) automatonBuildsCard

/-- THE TIED CARD OF 'casebooklaw07.AutomatonLaws'. -/
def automatonLawsCard : Claim7 := { stood := { row := automatonLawsRow, standIns := [], harness := (true, "2585bfa7b4d18ff47efb39c6386b51e59aabb353e795154ea7edb69de7444229"), looks := false }, kinds := [], alts := [], laidByText := true, laidKinds := [.data, .data, .data], laidTests := true, laidLooks := .later }
def AutomatonLawsCardSaid : Prop := Claim7.holds Tryz.pinned (.plain (OpenSpec.ofChange automatonLawsSpec)) automatonLawsCard

/-- THE TIED CARD OF 'casebooklaw07.AutomatonOperates'. -/
def automatonOperatesCard : Claim7 := { stood := { row := automatonOperatesRow, standIns := [], harness := (true, "2585bfa7b4d18ff47efb39c6386b51e59aabb353e795154ea7edb69de7444229"), looks := false }, kinds := [], alts := [], laidByText := true, laidKinds := [.data, .data, .data], laidTests := true, laidLooks := .later }
def AutomatonOperatesCardSaid : Prop := Claim7.holds Tryz.pinned (.plain (OpenSpec.ofChange automatonOperatesSpec)) automatonOperatesCard

/-- THE SECOND FORM's CARD OF 'casebooklaw07.AutomatonLists'. -/
def automatonListsUptoCard : Claim7 := { stood := { row := automatonListsUptoRow, standIns := [], harness := (true, "2585bfa7b4d18ff47efb39c6386b51e59aabb353e795154ea7edb69de7444229"), looks := false }, kinds := [], alts := [], laidByText := true, laidKinds := [.data, .data, .data], laidTests := true, laidLooks := .later }
def AutomatonListsUptoCardSaid : Prop := Claim7.holds Tryz.pinned (.plain (OpenSpec.upto automatonListsSpec)) automatonListsUptoCard

/-- THE SECOND FORM's CARD OF 'casebooklaw07.AutomatonProducts'. -/
def automatonProductsUptoCard : Claim7 := { stood := { row := automatonProductsUptoRow, standIns := [], harness := (true, "2585bfa7b4d18ff47efb39c6386b51e59aabb353e795154ea7edb69de7444229"), looks := false }, kinds := [], alts := [], laidByText := true, laidKinds := [.data, .data, .data], laidTests := true, laidLooks := .later }
def AutomatonProductsUptoCardSaid : Prop := Claim7.holds Tryz.pinned (.plain (OpenSpec.upto automatonProductsSpec)) automatonProductsUptoCard

/-- THE SECOND FORM's CARD OF 'casebooklaw07.AutomatonForms'. -/
def automatonFormsUptoCard : Claim7 := { stood := { row := automatonFormsUptoRow, standIns := [], harness := (true, "2585bfa7b4d18ff47efb39c6386b51e59aabb353e795154ea7edb69de7444229"), looks := false }, kinds := [], alts := [], laidByText := true, laidKinds := [.data, .data, .data], laidTests := true, laidLooks := .later }
def AutomatonFormsUptoCardSaid : Prop := Claim7.holds Tryz.pinned (.plain (OpenSpec.upto automatonFormsSpec)) automatonFormsUptoCard

/-- THE SECOND FORM's CARD OF 'casebooklaw07.AutomatonMinimal'. -/
def automatonMinimalUptoCard : Claim7 := { stood := { row := automatonMinimalUptoRow, standIns := [], harness := (true, "2585bfa7b4d18ff47efb39c6386b51e59aabb353e795154ea7edb69de7444229"), looks := false }, kinds := [], alts := [], laidByText := true, laidKinds := [.data, .data, .data], laidTests := true, laidLooks := .later }
def AutomatonMinimalUptoCardSaid : Prop := Claim7.holds Tryz.pinned (.plain (OpenSpec.upto automatonMinimalSpec)) automatonMinimalUptoCard

/-- THE SECOND FORM's CARD OF 'casebooklaw07.AutomatonFinds'. -/
def automatonFindsUptoCard : Claim7 := { stood := { row := automatonFindsUptoRow, standIns := [], harness := (true, "2585bfa7b4d18ff47efb39c6386b51e59aabb353e795154ea7edb69de7444229"), looks := false }, kinds := [], alts := [], laidByText := true, laidKinds := [.data, .data, .data], laidTests := true, laidLooks := .later }
def AutomatonFindsUptoCardSaid : Prop := Claim7.holds Tryz.pinned (.plain (OpenSpec.upto automatonFindsSpec)) automatonFindsUptoCard

/-- THE SECOND FORM's CARD OF 'casebooklaw07.AutomatonShuffles'. -/
def automatonShufflesUptoCard : Claim7 := { stood := { row := automatonShufflesUptoRow, standIns := [], harness := (true, "2585bfa7b4d18ff47efb39c6386b51e59aabb353e795154ea7edb69de7444229"), looks := false }, kinds := [], alts := [], laidByText := true, laidKinds := [.data, .data, .data], laidTests := true, laidLooks := .later }
def AutomatonShufflesUptoCardSaid : Prop := Claim7.holds Tryz.pinned (.plain (OpenSpec.upto automatonShufflesSpec)) automatonShufflesUptoCard

/-- THE SECOND FORM's CARD OF 'casebooklaw07.AutomatonFirst'. -/
def automatonFirstUptoCard : Claim7 := { stood := { row := automatonFirstUptoRow, standIns := [], harness := (true, "2585bfa7b4d18ff47efb39c6386b51e59aabb353e795154ea7edb69de7444229"), looks := false }, kinds := [], alts := [], laidByText := true, laidKinds := [.data, .data, .data], laidTests := true, laidLooks := .later }
def AutomatonFirstUptoCardSaid : Prop := Claim7.holds Tryz.pinned (.plain (OpenSpec.upto automatonFirstSpec)) automatonFirstUptoCard

/-- THE SECOND FORM's CARD OF 'casebooklaw07.AutomatonBuilds'. -/
def automatonBuildsUptoCard : Claim7 := { stood := { row := automatonBuildsUptoRow, standIns := [], harness := (true, "2585bfa7b4d18ff47efb39c6386b51e59aabb353e795154ea7edb69de7444229"), looks := false }, kinds := [], alts := [], laidByText := true, laidKinds := [.data, .data, .data], laidTests := true, laidLooks := .later }
def AutomatonBuildsUptoCardSaid : Prop := Claim7.holds Tryz.pinned (.plain (OpenSpec.upto automatonBuildsSpec)) automatonBuildsUptoCard

/-- THE SECOND FORM's CARD OF 'casebooklaw07.AutomatonLaws'. -/
def automatonLawsUptoCard : Claim7 := { stood := { row := automatonLawsUptoRow, standIns := [], harness := (true, "2585bfa7b4d18ff47efb39c6386b51e59aabb353e795154ea7edb69de7444229"), looks := false }, kinds := [], alts := [], laidByText := true, laidKinds := [.data, .data, .data], laidTests := true, laidLooks := .later }
def AutomatonLawsUptoCardSaid : Prop := Claim7.holds Tryz.pinned (.plain (OpenSpec.upto automatonLawsSpec)) automatonLawsUptoCard

/-- THE SECOND FORM's CARD OF 'casebooklaw07.AutomatonOperates'. -/
def automatonOperatesUptoCard : Claim7 := { stood := { row := automatonOperatesUptoRow, standIns := [], harness := (true, "2585bfa7b4d18ff47efb39c6386b51e59aabb353e795154ea7edb69de7444229"), looks := false }, kinds := [], alts := [], laidByText := true, laidKinds := [.data, .data, .data], laidTests := true, laidLooks := .later }
def AutomatonOperatesUptoCardSaid : Prop := Claim7.holds Tryz.pinned (.plain (OpenSpec.upto automatonOperatesSpec)) automatonOperatesUptoCard
end Rows
end Go.Proofs.YtgigclnaicbiaaaGreatDoor
