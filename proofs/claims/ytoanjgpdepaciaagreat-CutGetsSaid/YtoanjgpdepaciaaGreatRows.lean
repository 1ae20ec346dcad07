/-
  No cell of these rows narrows 'for every input' (looked for: loops, veiled, ifaces, maps, wideKeys, modest, calm, conditions, laid).
  DERIVED. THE GIVEN ROWS OF THIS SEAT. 4 by the template 'for every input the law returns true; each argument reads behind the call as it read before'; 0 by the template 'total and deterministic' (their statements: YtoanjgpdepaciaaGreatTotals.lean).
  GIVEN WITH THE SEED: the statements are not yours to turn. If you find one false, say at which input.
  Laid BY PROGRAM, IN A SANDBOX (cutbox-rows.mjs): the forced cells as the released guide's own fill.sh prints them over the translation 40d16688859afb56… (all of the seat's roots in one cut). By AI agents, Wed Nov 11 2026. No macro, syntax, notation, axiom, sorry.
-/
import Derived.Test.YtoanjgpdepaciaaGreatChecked
import GoSem.Claim
import GoSem.ClaimJoined
import GoSem.ClaimMapViews
import Derived.JoinedTies
import Derived.KernelRfl
namespace Go.Proofs.YtoanjgpdepaciaaGreat
/- THE CELL 'sum', in the pinned program and in every row, IS THE sha256 OF THE DUMP (.gsa) THAT YtoanjgpdepaciaaGreatProg.lean LOADS. Nothing in Lean hashes anything: it is a label: what it is worth is what the hold of that sum in a sandbox is worth. -/
noncomputable def Tryz.pinned : Pinned := { name := "ytoanjgpdepaciaagreat", sum := "40d16688859afb56f5a0b34d775833aee6e0656735dee0a81a21979a4d764238", checked := Tryz.checked }
namespace Rows
def none {H : Type} : Left H := { results := [], args := [] }

/-- 'casebooklaw36.CutForms': WHATEVER THE INPUT: true; the input reads as it did. -/
def cutFormsSpec : ChangeSpec := { name := "cutForms", fn := fun _ => fun
  | [d1, d2] => { results := [.lit (.bool true)], args := [d1, d2] }
  | _ => none }
def cutFormsRow : OpenClaim := { program := "ytoanjgpdepaciaagreat", sum := "40d16688859afb56f5a0b34d775833aee6e0656735dee0a81a21979a4d764238", func := "casebook/casebooklaw36.CutForms", spec := "cutForms", inPlace := ["internal/abi.NoEscape", "internal/bytealg.MakeNoZero"], unfollowed := true, recurses := true, plainKeys := false, apart := false }
def CutFormsSaid : Prop := cutFormsRow.holds Tryz.pinned (OpenSpec.ofChange cutFormsSpec)

/-- ITS FALSE NEIGHBOUR: 'it returns false'. Refute it at one input. -/
def cutFormsWrong : ChangeSpec := { name := "cutForms", fn := fun _ => fun
  | [d1, d2] => { results := [.lit (.bool false)], args := [d1, d2] }
  | _ => none }
def CutFormsWrongFalsely : Prop := cutFormsRow.holds Tryz.pinned (OpenSpec.ofChange cutFormsWrong)

/-- 'casebooklaw36.CutFinest': WHATEVER THE INPUT: true; the input reads as it did. -/
def cutFinestSpec : ChangeSpec := { name := "cutFinest", fn := fun _ => fun
  | [d1, d2] => { results := [.lit (.bool true)], args := [d1, d2] }
  | _ => none }
def cutFinestRow : OpenClaim := { program := "ytoanjgpdepaciaagreat", sum := "40d16688859afb56f5a0b34d775833aee6e0656735dee0a81a21979a4d764238", func := "casebook/casebooklaw36.CutFinest", spec := "cutFinest", inPlace := ["internal/abi.NoEscape", "internal/bytealg.MakeNoZero"], unfollowed := true, recurses := true, plainKeys := false, apart := false }
def CutFinestSaid : Prop := cutFinestRow.holds Tryz.pinned (OpenSpec.ofChange cutFinestSpec)

/-- ITS FALSE NEIGHBOUR: 'it returns false'. Refute it at one input. -/
def cutFinestWrong : ChangeSpec := { name := "cutFinest", fn := fun _ => fun
  | [d1, d2] => { results := [.lit (.bool false)], args := [d1, d2] }
  | _ => none }
def CutFinestWrongFalsely : Prop := cutFinestRow.holds Tryz.pinned (OpenSpec.ofChange cutFinestWrong)

/-- 'casebooklaw36.CutGets': WHATEVER THE INPUT: true; the input reads as it did. -/
def cutGetsSpec : ChangeSpec := { name := "cutGets", fn := fun _ => fun
  | [d] => { results := [.lit (.bool true)], args := [d] }
  | _ => none }
def cutGetsRow : OpenClaim := { program := "ytoanjgpdepaciaagreat", sum := "40d16688859afb56f5a0b34d775833aee6e0656735dee0a81a21979a4d764238", func := "casebook/casebooklaw36.CutGets", spec := "cutGets", inPlace := ["internal/abi.NoEscape", "internal/bytealg.MakeNoZero"], unfollowed := true, recurses := true, plainKeys := false, apart := false }
def CutGetsSaid : Prop := cutGetsRow.holds Tryz.pinned (OpenSpec.ofChange cutGetsSpec)

/-- ITS FALSE NEIGHBOUR: 'it returns false'. Refute it at one input. -/
def cutGetsWrong : ChangeSpec := { name := "cutGets", fn := fun _ => fun
  | [d] => { results := [.lit (.bool false)], args := [d] }
  | _ => none }
def CutGetsWrongFalsely : Prop := cutGetsRow.holds Tryz.pinned (OpenSpec.ofChange cutGetsWrong)

/-- 'casebooklaw36.CutFound': WHATEVER THE INPUT: true; the input reads as it did. -/
def cutFoundSpec : ChangeSpec := { name := "cutFound", fn := fun _ => fun
  | [d] => { results := [.lit (.bool true)], args := [d] }
  | _ => none }
def cutFoundRow : OpenClaim := { program := "ytoanjgpdepaciaagreat", sum := "40d16688859afb56f5a0b34d775833aee6e0656735dee0a81a21979a4d764238", func := "casebook/casebooklaw36.CutFound", spec := "cutFound", inPlace := ["internal/abi.NoEscape", "internal/bytealg.MakeNoZero"], unfollowed := true, recurses := true, plainKeys := false, apart := false }
def CutFoundSaid : Prop := cutFoundRow.holds Tryz.pinned (OpenSpec.ofChange cutFoundSpec)

/-- ITS FALSE NEIGHBOUR: 'it returns false'. Refute it at one input. -/
def cutFoundWrong : ChangeSpec := { name := "cutFound", fn := fun _ => fun
  | [d] => { results := [.lit (.bool false)], args := [d] }
  | _ => none }
def CutFoundWrongFalsely : Prop := cutFoundRow.holds Tryz.pinned (OpenSpec.ofChange cutFoundWrong)

/- THE SECOND FORM. 'bulk': how many values and letters a reading holds, each counted each time it is reached (what is shared counts as often as it is met; a slice's spare places count too). A statement '..UptoSaid' is the law's where the arguments, and the package variables that the reading takes, are together of bulk at most 1048576: NARROWER than '..Said'. Prove '..Said' where nothing that the law and all that it calls make is longer than what came in: it says more and counts as full. Else prove '..UptoSaid'. A law counts once. -/
mutual
def uptoBulk {H : Type} : DataW H → Nat
  | .lit (.string bytes) => bytes.length + 1
  | .lit _ => 1
  | .nil => 1
  | .ptr d => uptoBulk d + 1
  | .slice elems spare => uptoBulkAll elems + uptoBulkAll spare + 1
  | .agg parts => uptoBulkAll parts + 1
  | .iface _ d => uptoBulk d + 1
  | .map entries => uptoBulkEntries entries + 1
  | .held _ => 1
def uptoBulkAll {H : Type} : List (DataW H) → Nat
  | [] => 0
  | d :: r => uptoBulk d + uptoBulkAll r
def uptoBulkEntries {H : Type} : List (Lit × DataW H) → Nat
  | [] => 0
  | x :: r => uptoBulkEntry x + uptoBulkEntries r
def uptoBulkEntry {H : Type} : Lit × DataW H → Nat
  | (.string bytes, d) => bytes.length + uptoBulk d + 1
  | (_, d) => uptoBulk d + 1
 end
def uptoSmall : (H : Type) → List (DataW H) → Bool := fun _ ds => decide (uptoBulkAll ds ≤ 1048576)
def OpenSpec.upto (s : _root_.Go.ChangeSpec) : _root_.Go.OpenSpec := { _root_.Go.OpenSpec.ofChange s with cond := some uptoSmall }

/-- 'casebooklaw36.CutForms', WHERE WHAT IT READS IS OF BULK AT MOST 1048576: true; the input reads as it did. -/
def cutFormsUptoRow : OpenClaim := { program := "ytoanjgpdepaciaagreat", sum := "40d16688859afb56f5a0b34d775833aee6e0656735dee0a81a21979a4d764238", func := "casebook/casebooklaw36.CutForms", spec := "cutForms", inPlace := ["internal/abi.NoEscape", "internal/bytealg.MakeNoZero"], unfollowed := true, recurses := true, plainKeys := false, apart := false, narrowed := true }
def CutFormsUptoSaid : Prop := cutFormsUptoRow.holds Tryz.pinned (OpenSpec.upto cutFormsSpec)

/-- 'casebooklaw36.CutFinest', WHERE WHAT IT READS IS OF BULK AT MOST 1048576: true; the input reads as it did. -/
def cutFinestUptoRow : OpenClaim := { program := "ytoanjgpdepaciaagreat", sum := "40d16688859afb56f5a0b34d775833aee6e0656735dee0a81a21979a4d764238", func := "casebook/casebooklaw36.CutFinest", spec := "cutFinest", inPlace := ["internal/abi.NoEscape", "internal/bytealg.MakeNoZero"], unfollowed := true, recurses := true, plainKeys := false, apart := false, narrowed := true }
def CutFinestUptoSaid : Prop := cutFinestUptoRow.holds Tryz.pinned (OpenSpec.upto cutFinestSpec)

/-- 'casebooklaw36.CutGets', WHERE WHAT IT READS IS OF BULK AT MOST 1048576: true; the input reads as it did. -/
def cutGetsUptoRow : OpenClaim := { program := "ytoanjgpdepaciaagreat", sum := "40d16688859afb56f5a0b34d775833aee6e0656735dee0a81a21979a4d764238", func := "casebook/casebooklaw36.CutGets", spec := "cutGets", inPlace := ["internal/abi.NoEscape", "internal/bytealg.MakeNoZero"], unfollowed := true, recurses := true, plainKeys := false, apart := false, narrowed := true }
def CutGetsUptoSaid : Prop := cutGetsUptoRow.holds Tryz.pinned (OpenSpec.upto cutGetsSpec)

/-- 'casebooklaw36.CutFound', WHERE WHAT IT READS IS OF BULK AT MOST 1048576: true; the input reads as it did. -/
def cutFoundUptoRow : OpenClaim := { program := "ytoanjgpdepaciaagreat", sum := "40d16688859afb56f5a0b34d775833aee6e0656735dee0a81a21979a4d764238", func := "casebook/casebooklaw36.CutFound", spec := "cutFound", inPlace := ["internal/abi.NoEscape", "internal/bytealg.MakeNoZero"], unfollowed := true, recurses := true, plainKeys := false, apart := false, narrowed := true }
def CutFoundUptoSaid : Prop := cutFoundUptoRow.holds Tryz.pinned (OpenSpec.upto cutFoundSpec)

end Rows
end Go.Proofs.YtoanjgpdepaciaaGreat
