/-
  No cell of these rows narrows 'for every input' (looked for: loops, veiled, ifaces, maps, wideKeys, modest, calm, conditions, laid).
  DERIVED. THE GIVEN ROWS OF THIS SEAT. 8 by the template 'for every input the law returns true; each argument reads behind the call as it read before'; 0 by the template 'total and deterministic' (their statements: YtebcjijpdhbcdaaGreatTotals.lean).
  GIVEN WITH THE SEED: the statements are not yours to turn. If you find one false, say at which input.
  Laid BY PROGRAM, IN A SANDBOX (cutbox-rows.mjs): the forced cells as the released guide's own fill.sh prints them over the translation edf4080fdb9f8db8… (all of the seat's roots in one cut). By AI agents, Wed Nov 11 2026. No macro, syntax, notation, axiom, sorry.
-/
import Derived.Test.YtebcjijpdhbcdaaGreatChecked
import GoSem.Claim
import GoSem.ClaimJoined
import GoSem.ClaimMapViews
import Derived.JoinedTies
import Derived.KernelRfl
namespace Go.Proofs.YtebcjijpdhbcdaaGreat
/- THE CELL 'sum', in the pinned program and in every row, IS THE sha256 OF THE DUMP (.gsa) THAT YtebcjijpdhbcdaaGreatProg.lean LOADS. Nothing in Lean hashes anything: it is a label: what it is worth is what the hold of that sum in a sandbox is worth. -/
noncomputable def Tryz.pinned : Pinned := { name := "ytebcjijpdhbcdaagreat", sum := "edf4080fdb9f8db88c12f636aa6c57d3a1bcd9f053648e14c5119400c2b9e3f2", checked := Tryz.checked }
namespace Rows
def none {H : Type} : Left H := { results := [], args := [] }

/-- 'casebooklaw17.DfgMakes': WHATEVER THE INPUT: true; the input reads as it did. -/
def dfgMakesSpec : ChangeSpec := { name := "dfgMakes", fn := fun _ => fun
  | [d] => { results := [.lit (.bool true)], args := [d] }
  | _ => none }
def dfgMakesRow : OpenClaim := { program := "ytebcjijpdhbcdaagreat", sum := "edf4080fdb9f8db88c12f636aa6c57d3a1bcd9f053648e14c5119400c2b9e3f2", func := "casebook/casebooklaw17.DfgMakes", spec := "dfgMakes", unfollowed := true, recurses := true, plainKeys := false, apart := false }
def DfgMakesSaid : Prop := dfgMakesRow.holds Tryz.pinned (OpenSpec.ofChange dfgMakesSpec)

/-- ITS FALSE NEIGHBOUR: 'it returns false'. Refute it at one input. -/
def dfgMakesWrong : ChangeSpec := { name := "dfgMakes", fn := fun _ => fun
  | [d] => { results := [.lit (.bool false)], args := [d] }
  | _ => none }
def DfgMakesWrongFalsely : Prop := dfgMakesRow.holds Tryz.pinned (OpenSpec.ofChange dfgMakesWrong)

/-- 'casebooklaw17.DfgWords': WHATEVER THE INPUT: true; the input reads as it did. -/
def dfgWordsSpec : ChangeSpec := { name := "dfgWords", fn := fun _ => fun
  | [d1, d2] => { results := [.lit (.bool true)], args := [d1, d2] }
  | _ => none }
def dfgWordsRow : OpenClaim := { program := "ytebcjijpdhbcdaagreat", sum := "edf4080fdb9f8db88c12f636aa6c57d3a1bcd9f053648e14c5119400c2b9e3f2", func := "casebook/casebooklaw17.DfgWords", spec := "dfgWords", unfollowed := true, recurses := true, plainKeys := false, apart := false }
def DfgWordsSaid : Prop := dfgWordsRow.holds Tryz.pinned (OpenSpec.ofChange dfgWordsSpec)

/-- ITS FALSE NEIGHBOUR: 'it returns false'. Refute it at one input. -/
def dfgWordsWrong : ChangeSpec := { name := "dfgWords", fn := fun _ => fun
  | [d1, d2] => { results := [.lit (.bool false)], args := [d1, d2] }
  | _ => none }
def DfgWordsWrongFalsely : Prop := dfgWordsRow.holds Tryz.pinned (OpenSpec.ofChange dfgWordsWrong)

/-- 'casebooklaw17.DfgFlow': WHATEVER THE INPUT: true; the input reads as it did. -/
def dfgFlowSpec : ChangeSpec := { name := "dfgFlow", fn := fun _ => fun
  | [d] => { results := [.lit (.bool true)], args := [d] }
  | _ => none }
def dfgFlowRow : OpenClaim := { program := "ytebcjijpdhbcdaagreat", sum := "edf4080fdb9f8db88c12f636aa6c57d3a1bcd9f053648e14c5119400c2b9e3f2", func := "casebook/casebooklaw17.DfgFlow", spec := "dfgFlow", unfollowed := true, recurses := true, plainKeys := false, apart := false }
def DfgFlowSaid : Prop := dfgFlowRow.holds Tryz.pinned (OpenSpec.ofChange dfgFlowSpec)

/-- ITS FALSE NEIGHBOUR: 'it returns false'. Refute it at one input. -/
def dfgFlowWrong : ChangeSpec := { name := "dfgFlow", fn := fun _ => fun
  | [d] => { results := [.lit (.bool false)], args := [d] }
  | _ => none }
def DfgFlowWrongFalsely : Prop := dfgFlowRow.holds Tryz.pinned (OpenSpec.ofChange dfgFlowWrong)

/-- 'casebooklaw17.DfgLess': WHATEVER THE INPUT: true; the input reads as it did. -/
def dfgLessSpec : ChangeSpec := { name := "dfgLess", fn := fun _ => fun
  | [d1, d2, d3, d4] => { results := [.lit (.bool true)], args := [d1, d2, d3, d4] }
  | _ => none }
def dfgLessRow : OpenClaim := { program := "ytebcjijpdhbcdaagreat", sum := "edf4080fdb9f8db88c12f636aa6c57d3a1bcd9f053648e14c5119400c2b9e3f2", func := "casebook/casebooklaw17.DfgLess", spec := "dfgLess", unfollowed := true, recurses := true, plainKeys := false, apart := false }
def DfgLessSaid : Prop := dfgLessRow.holds Tryz.pinned (OpenSpec.ofChange dfgLessSpec)

/-- ITS FALSE NEIGHBOUR: 'it returns false'. Refute it at one input. -/
def dfgLessWrong : ChangeSpec := { name := "dfgLess", fn := fun _ => fun
  | [d1, d2, d3, d4] => { results := [.lit (.bool false)], args := [d1, d2, d3, d4] }
  | _ => none }
def DfgLessWrongFalsely : Prop := dfgLessRow.holds Tryz.pinned (OpenSpec.ofChange dfgLessWrong)

/-- 'casebooklaw17.DfgSums': WHATEVER THE INPUT: true; the input reads as it did. -/
def dfgSumsSpec : ChangeSpec := { name := "dfgSums", fn := fun _ => fun
  | [d1, d2, d3] => { results := [.lit (.bool true)], args := [d1, d2, d3] }
  | _ => none }
def dfgSumsRow : OpenClaim := { program := "ytebcjijpdhbcdaagreat", sum := "edf4080fdb9f8db88c12f636aa6c57d3a1bcd9f053648e14c5119400c2b9e3f2", func := "casebook/casebooklaw17.DfgSums", spec := "dfgSums", unfollowed := true, recurses := true, plainKeys := false, apart := false }
def DfgSumsSaid : Prop := dfgSumsRow.holds Tryz.pinned (OpenSpec.ofChange dfgSumsSpec)

/-- ITS FALSE NEIGHBOUR: 'it returns false'. Refute it at one input. -/
def dfgSumsWrong : ChangeSpec := { name := "dfgSums", fn := fun _ => fun
  | [d1, d2, d3] => { results := [.lit (.bool false)], args := [d1, d2, d3] }
  | _ => none }
def DfgSumsWrongFalsely : Prop := dfgSumsRow.holds Tryz.pinned (OpenSpec.ofChange dfgSumsWrong)

/-- 'casebooklaw17.DfgAdds': WHATEVER THE INPUT: true; the input reads as it did. -/
def dfgAddsSpec : ChangeSpec := { name := "dfgAdds", fn := fun _ => fun
  | [d1, d2] => { results := [.lit (.bool true)], args := [d1, d2] }
  | _ => none }
def dfgAddsRow : OpenClaim := { program := "ytebcjijpdhbcdaagreat", sum := "edf4080fdb9f8db88c12f636aa6c57d3a1bcd9f053648e14c5119400c2b9e3f2", func := "casebook/casebooklaw17.DfgAdds", spec := "dfgAdds", unfollowed := true, recurses := true, plainKeys := false, apart := false }
def DfgAddsSaid : Prop := dfgAddsRow.holds Tryz.pinned (OpenSpec.ofChange dfgAddsSpec)

/-- ITS FALSE NEIGHBOUR: 'it returns false'. Refute it at one input. -/
def dfgAddsWrong : ChangeSpec := { name := "dfgAdds", fn := fun _ => fun
  | [d1, d2] => { results := [.lit (.bool false)], args := [d1, d2] }
  | _ => none }
def DfgAddsWrongFalsely : Prop := dfgAddsRow.holds Tryz.pinned (OpenSpec.ofChange dfgAddsWrong)

/-- 'casebooklaw17.DfgAccepts': WHATEVER THE INPUT: true; the input reads as it did. -/
def dfgAcceptsSpec : ChangeSpec := { name := "dfgAccepts", fn := fun _ => fun
  | [d] => { results := [.lit (.bool true)], args := [d] }
  | _ => none }
def dfgAcceptsRow : OpenClaim := { program := "ytebcjijpdhbcdaagreat", sum := "edf4080fdb9f8db88c12f636aa6c57d3a1bcd9f053648e14c5119400c2b9e3f2", func := "casebook/casebooklaw17.DfgAccepts", spec := "dfgAccepts", unfollowed := true, recurses := true, plainKeys := false, apart := false }
def DfgAcceptsSaid : Prop := dfgAcceptsRow.holds Tryz.pinned (OpenSpec.ofChange dfgAcceptsSpec)

/-- ITS FALSE NEIGHBOUR: 'it returns false'. Refute it at one input. -/
def dfgAcceptsWrong : ChangeSpec := { name := "dfgAccepts", fn := fun _ => fun
  | [d] => { results := [.lit (.bool false)], args := [d] }
  | _ => none }
def DfgAcceptsWrongFalsely : Prop := dfgAcceptsRow.holds Tryz.pinned (OpenSpec.ofChange dfgAcceptsWrong)

/-- 'casebooklaw17.DfgForms': WHATEVER THE INPUT: true; the input reads as it did. -/
def dfgFormsSpec : ChangeSpec := { name := "dfgForms", fn := fun _ => fun
  | [d1, d2, d3] => { results := [.lit (.bool true)], args := [d1, d2, d3] }
  | _ => none }
def dfgFormsRow : OpenClaim := { program := "ytebcjijpdhbcdaagreat", sum := "edf4080fdb9f8db88c12f636aa6c57d3a1bcd9f053648e14c5119400c2b9e3f2", func := "casebook/casebooklaw17.DfgForms", spec := "dfgForms", unfollowed := true, recurses := true, plainKeys := false, apart := false }
def DfgFormsSaid : Prop := dfgFormsRow.holds Tryz.pinned (OpenSpec.ofChange dfgFormsSpec)

/-- ITS FALSE NEIGHBOUR: 'it returns false'. Refute it at one input. -/
def dfgFormsWrong : ChangeSpec := { name := "dfgForms", fn := fun _ => fun
  | [d1, d2, d3] => { results := [.lit (.bool false)], args := [d1, d2, d3] }
  | _ => none }
def DfgFormsWrongFalsely : Prop := dfgFormsRow.holds Tryz.pinned (OpenSpec.ofChange dfgFormsWrong)

/- THE SECOND FORM. 'bulk': how many values and letters a reading holds, each counted each time it is reached (what is shared counts as often as it is met; a slice's spare places count too). A statement '..UptoSaid' is the law's where the arguments, and the package variables that the reading takes, are together of bulk at most 1048576: NARROWER than '..Said'. Prove '..Said' where nothing that the law and all that it calls make is longer than what came in: it says more and counts as full. Else prove '..UptoSaid'. A law counts once. -/
mutual
def uptoBulk {H : Type} : DataW H → Nat
  | .lit (.string bytes) => bytes.length + 1
  | .lit _ => 1
  | .nil => 1
  | .ptr d => uptoBulk d + 1
  | .slice elems spare => uptoBulkAll elems + uptoBulkAll spare + 1
  | .agg parts => uptoBulkAll parts + 1
  | .iface _ d => uptoBulk d + 1
  | .map entries => uptoBulkEntries entries + 1
  | .held _ => 1
def uptoBulkAll {H : Type} : List (DataW H) → Nat
  | [] => 0
  | d :: r => uptoBulk d + uptoBulkAll r
def uptoBulkEntries {H : Type} : List (Lit × DataW H) → Nat
  | [] => 0
  | x :: r => uptoBulkEntry x + uptoBulkEntries r
def uptoBulkEntry {H : Type} : Lit × DataW H → Nat
  | (.string bytes, d) => bytes.length + uptoBulk d + 1
  | (_, d) => uptoBulk d + 1
 end
def uptoSmall : (H : Type) → List (DataW H) → Bool := fun _ ds => decide (uptoBulkAll ds ≤ 1048576)
def OpenSpec.upto (s : _root_.Go.ChangeSpec) : _root_.Go.OpenSpec := { _root_.Go.OpenSpec.ofChange s with cond := some uptoSmall }

/-- 'casebooklaw17.DfgMakes', WHERE WHAT IT READS IS OF BULK AT MOST 1048576: true; the input reads as it did. -/
def dfgMakesUptoRow : OpenClaim := { program := "ytebcjijpdhbcdaagreat", sum := "edf4080fdb9f8db88c12f636aa6c57d3a1bcd9f053648e14c5119400c2b9e3f2", func := "casebook/casebooklaw17.DfgMakes", spec := "dfgMakes", unfollowed := true, recurses := true, plainKeys := false, apart := false, narrowed := true }
def DfgMakesUptoSaid : Prop := dfgMakesUptoRow.holds Tryz.pinned (OpenSpec.upto dfgMakesSpec)

/-- 'casebooklaw17.DfgWords', WHERE WHAT IT READS IS OF BULK AT MOST 1048576: true; the input reads as it did. -/
def dfgWordsUptoRow : OpenClaim := { program := "ytebcjijpdhbcdaagreat", sum := "edf4080fdb9f8db88c12f636aa6c57d3a1bcd9f053648e14c5119400c2b9e3f2", func := "casebook/casebooklaw17.DfgWords", spec := "dfgWords", unfollowed := true, recurses := true, plainKeys := false, apart := false, narrowed := true }
def DfgWordsUptoSaid : Prop := dfgWordsUptoRow.holds Tryz.pinned (OpenSpec.upto dfgWordsSpec)

/-- 'casebooklaw17.DfgFlow', WHERE WHAT IT READS IS OF BULK AT MOST 1048576: true; the input reads as it did. -/
def dfgFlowUptoRow : OpenClaim := { program := "ytebcjijpdhbcdaagreat", sum := "edf4080fdb9f8db88c12f636aa6c57d3a1bcd9f053648e14c5119400c2b9e3f2", func := "casebook/casebooklaw17.DfgFlow", spec := "dfgFlow", unfollowed := true, recurses := true, plainKeys := false, apart := false, narrowed := true }
def DfgFlowUptoSaid : Prop := dfgFlowUptoRow.holds Tryz.pinned (OpenSpec.upto dfgFlowSpec)

/-- 'casebooklaw17.DfgLess', WHERE WHAT IT READS IS OF BULK AT MOST 1048576: true; the input reads as it did. -/
def dfgLessUptoRow : OpenClaim := { program := "ytebcjijpdhbcdaagreat", sum := "edf4080fdb9f8db88c12f636aa6c57d3a1bcd9f053648e14c5119400c2b9e3f2", func := "casebook/casebooklaw17.DfgLess", spec := "dfgLess", unfollowed := true, recurses := true, plainKeys := false, apart := false, narrowed := true }
def DfgLessUptoSaid : Prop := dfgLessUptoRow.holds Tryz.pinned (OpenSpec.upto dfgLessSpec)

/-- 'casebooklaw17.DfgSums', WHERE WHAT IT READS IS OF BULK AT MOST 1048576: true; the input reads as it did. -/
def dfgSumsUptoRow : OpenClaim := { program := "ytebcjijpdhbcdaagreat", sum := "edf4080fdb9f8db88c12f636aa6c57d3a1bcd9f053648e14c5119400c2b9e3f2", func := "casebook/casebooklaw17.DfgSums", spec := "dfgSums", unfollowed := true, recurses := true, plainKeys := false, apart := false, narrowed := true }
def DfgSumsUptoSaid : Prop := dfgSumsUptoRow.holds Tryz.pinned (OpenSpec.upto dfgSumsSpec)

/-- 'casebooklaw17.DfgAdds', WHERE WHAT IT READS IS OF BULK AT MOST 1048576: true; the input reads as it did. -/
def dfgAddsUptoRow : OpenClaim := { program := "ytebcjijpdhbcdaagreat", sum := "edf4080fdb9f8db88c12f636aa6c57d3a1bcd9f053648e14c5119400c2b9e3f2", func := "casebook/casebooklaw17.DfgAdds", spec := "dfgAdds", unfollowed := true, recurses := true, plainKeys := false, apart := false, narrowed := true }
def DfgAddsUptoSaid : Prop := dfgAddsUptoRow.holds Tryz.pinned (OpenSpec.upto dfgAddsSpec)

/-- 'casebooklaw17.DfgAccepts', WHERE WHAT IT READS IS OF BULK AT MOST 1048576: true; the input reads as it did. -/
def dfgAcceptsUptoRow : OpenClaim := { program := "ytebcjijpdhbcdaagreat", sum := "edf4080fdb9f8db88c12f636aa6c57d3a1bcd9f053648e14c5119400c2b9e3f2", func := "casebook/casebooklaw17.DfgAccepts", spec := "dfgAccepts", unfollowed := true, recurses := true, plainKeys := false, apart := false, narrowed := true }
def DfgAcceptsUptoSaid : Prop := dfgAcceptsUptoRow.holds Tryz.pinned (OpenSpec.upto dfgAcceptsSpec)

/-- 'casebooklaw17.DfgForms', WHERE WHAT IT READS IS OF BULK AT MOST 1048576: true; the input reads as it did. -/
def dfgFormsUptoRow : OpenClaim := { program := "ytebcjijpdhbcdaagreat", sum := "edf4080fdb9f8db88c12f636aa6c57d3a1bcd9f053648e14c5119400c2b9e3f2", func := "casebook/casebooklaw17.DfgForms", spec := "dfgForms", unfollowed := true, recurses := true, plainKeys := false, apart := false, narrowed := true }
def DfgFormsUptoSaid : Prop := dfgFormsUptoRow.holds Tryz.pinned (OpenSpec.upto dfgFormsSpec)

end Rows
end Go.Proofs.YtebcjijpdhbcdaaGreat
