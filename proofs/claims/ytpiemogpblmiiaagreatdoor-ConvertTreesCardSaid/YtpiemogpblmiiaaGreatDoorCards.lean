/-
  DERIVED. GIVEN WITH THE SEED: THE CARDS: each row of YtpiemogpblmiiaaGreatDoorRows.lean that lists a variable, with what it lists TIED to the program's text (the seventh form; the later family's looks); each row that meets fmt, with fmt's text TOLD by the authors' own Lean function (tested against real Go, not proved from fmt's source: count such statements apart). THE CARD IS WHAT COUNTS. Prove the row's statement (the work); the ties are given (YtpiemogpblmiiaaGreatDoorTie.lean); close each card by the builder's one call (the guide's Derived/Test/ToyasCard.lean, 'card_holds'). Laid BY PROGRAM, IN A SANDBOX (cutbox-door.mjs). By AI agents, Wed Nov 11 2026. No macro, syntax, notation, axiom, sorry.
-/
import Derived.Test.YtpiemogpblmiiaaGreatDoorRows
import GoSem.ClaimSeven
namespace Go.Proofs.YtpiemogpblmiiaaGreatDoor
namespace Rows

/-- THE TIED CARD OF 'casebooklaw23.ConvertTrees'. -/
def convertTreesCard : Claim7 := { stood := { row := convertTreesRow, standIns := [], harness := (true, "0fc7dc78e61d0d05505b46b24a73151f82bf8d5fc47e3efe54d446206bcdce24"), looks := true }, kinds := [], alts := [], laidByText := true, laidKinds := [.data, .data, .data, .sentinel, .sentinel], laidTests := true, laidLooks := .later }
def ConvertTreesCardSaid : Prop := Claim7.holds Tryz.pinned (.plain (OpenSpec.ofChange convertTreesSpec)) convertTreesCard

/-- THE TIED CARD OF 'casebooklaw23.ConvertNets'. -/
def convertNetsCard : Claim7 := { stood := { row := convertNetsRow, standIns := [], harness := (true, "0fc7dc78e61d0d05505b46b24a73151f82bf8d5fc47e3efe54d446206bcdce24"), looks := true }, kinds := [], alts := [], laidByText := true, laidKinds := [.data, .data, .data, .sentinel, .sentinel], laidTests := true, laidLooks := .later }
def ConvertNetsCardSaid : Prop := Claim7.holds Tryz.pinned (.plain (OpenSpec.ofChange convertNetsSpec)) convertNetsCard

/-- THE TIED CARD OF 'casebooklaw23.ConvertApplies'. -/
def convertAppliesCard : Claim7 := { stood := { row := convertAppliesRow, standIns := [], harness := (true, "0fc7dc78e61d0d05505b46b24a73151f82bf8d5fc47e3efe54d446206bcdce24"), looks := true }, kinds := [], alts := [], laidByText := true, laidKinds := [.data, .data, .data, .sentinel, .sentinel], laidTests := true, laidLooks := .later }
def ConvertAppliesCardSaid : Prop := Claim7.holds Tryz.pinned (.plain (OpenSpec.ofChange convertAppliesSpec)) convertAppliesCard

/-- THE TIED CARD OF 'casebooklaw23.ConvertReduces'. -/
def convertReducesCard : Claim7 := { stood := { row := convertReducesRow, standIns := [], harness := (true, "0fc7dc78e61d0d05505b46b24a73151f82bf8d5fc47e3efe54d446206bcdce24"), looks := true }, kinds := [], alts := [], laidByText := true, laidKinds := [.data, .data, .data, .sentinel, .sentinel], laidTests := true, laidLooks := .later }
def ConvertReducesCardSaid : Prop := Claim7.holds Tryz.pinned (.plain (OpenSpec.ofChange convertReducesSpec)) convertReducesCard

/-- THE TIED CARD OF 'casebooklaw23.ConvertWords'. -/
def convertWordsCard : Claim7 := { stood := { row := convertWordsRow, standIns := [], harness := (true, "0fc7dc78e61d0d05505b46b24a73151f82bf8d5fc47e3efe54d446206bcdce24"), looks := true }, kinds := [], alts := [], laidByText := true, laidKinds := [.data, .data, .data, .sentinel, .sentinel], laidTests := true, laidLooks := .later }
def ConvertWordsCardSaid : Prop := Claim7.holds Tryz.pinned (.plain (OpenSpec.ofChange convertWordsSpec)) convertWordsCard

/-- THE SECOND FORM's CARD OF 'casebooklaw23.ConvertTrees'. -/
def convertTreesUptoCard : Claim7 := { stood := { row := convertTreesUptoRow, standIns := [], harness := (true, "0fc7dc78e61d0d05505b46b24a73151f82bf8d5fc47e3efe54d446206bcdce24"), looks := true }, kinds := [], alts := [], laidByText := true, laidKinds := [.data, .data, .data, .sentinel, .sentinel], laidTests := true, laidLooks := .later }
def ConvertTreesUptoCardSaid : Prop := Claim7.holds Tryz.pinned (.plain (OpenSpec.upto convertTreesSpec)) convertTreesUptoCard

/-- THE SECOND FORM's CARD OF 'casebooklaw23.ConvertNets'. -/
def convertNetsUptoCard : Claim7 := { stood := { row := convertNetsUptoRow, standIns := [], harness := (true, "0fc7dc78e61d0d05505b46b24a73151f82bf8d5fc47e3efe54d446206bcdce24"), looks := true }, kinds := [], alts := [], laidByText := true, laidKinds := [.data, .data, .data, .sentinel, .sentinel], laidTests := true, laidLooks := .later }
def ConvertNetsUptoCardSaid : Prop := Claim7.holds Tryz.pinned (.plain (OpenSpec.upto convertNetsSpec)) convertNetsUptoCard

/-- THE SECOND FORM's CARD OF 'casebooklaw23.ConvertApplies'. -/
def convertAppliesUptoCard : Claim7 := { stood := { row := convertAppliesUptoRow, standIns := [], harness := (true, "0fc7dc78e61d0d05505b46b24a73151f82bf8d5fc47e3efe54d446206bcdce24"), looks := true }, kinds := [], alts := [], laidByText := true, laidKinds := [.data, .data, .data, .sentinel, .sentinel], laidTests := true, laidLooks := .later }
def ConvertAppliesUptoCardSaid : Prop := Claim7.holds Tryz.pinned (.plain (OpenSpec.upto convertAppliesSpec)) convertAppliesUptoCard

/-- THE SECOND FORM's CARD OF 'casebooklaw23.ConvertReduces'. -/
def convertReducesUptoCard : Claim7 := { stood := { row := convertReducesUptoRow, standIns := [], harness := (true, "0fc7dc78e61d0d05505b46b24a73151f82bf8d5fc47e3efe54d446206bcdce24"), looks := true }, kinds := [], alts := [], laidByText := true, laidKinds := [.data, .data, .data, .sentinel, .sentinel], laidTests := true, laidLooks := .later }
def ConvertReducesUptoCardSaid : Prop := Claim7.holds Tryz.pinned (.plain (OpenSpec.upto convertReducesSpec)) convertReducesUptoCard

/-- THE SECOND FORM's CARD OF 'casebooklaw23.ConvertWords'. -/
def convertWordsUptoCard : Claim7 := { stood := { row := convertWordsUptoRow, standIns := [], harness := (true, "0fc7dc78e61d0d05505b46b24a73151f82bf8d5fc47e3efe54d446206bcdce24"), looks := true }, kinds := [], alts := [], laidByText := true, laidKinds := [.data, .data, .data, .sentinel, .sentinel], laidTests := true, laidLooks := .later }
def ConvertWordsUptoCardSaid : Prop := Claim7.holds Tryz.pinned (.plain (OpenSpec.upto convertWordsSpec)) convertWordsUptoCard
end Rows
end Go.Proofs.YtpiemogpblmiiaaGreatDoor
