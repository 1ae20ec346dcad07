/-
  No cell of these rows narrows 'for every input' (looked for: loops, veiled, ifaces, maps, wideKeys, modest, calm, conditions, laid).
  DERIVED. THE GIVEN ROWS OF THIS SEAT. 4 by the template 'for every input the law returns true; each argument reads behind the call as it read before'; 0 by the template 'total and deterministic' (their statements: YtmkojdfiadbeeaaGreatTotals.lean).
  GIVEN WITH THE SEED: the statements are not yours to turn. If you find one false, say at which input.
  Laid BY PROGRAM, IN A SANDBOX (cutbox-rows.mjs): the forced cells as the released guide's own fill.sh prints them over the translation 1567d1870a718abc… (all of the seat's roots in one cut). By AI agents, Wed Nov 11 2026. No macro, syntax, notation, axiom, sorry.
-/
import Derived.Test.YtmkojdfiadbeeaaGreatChecked
import GoSem.Claim
import GoSem.ClaimJoined
import GoSem.ClaimMapViews
import Derived.JoinedTies
import Derived.KernelRfl
namespace Go.Proofs.YtmkojdfiadbeeaaGreat
/- THE CELL 'sum', in the pinned program and in every row, IS THE sha256 OF THE DUMP (.gsa) THAT YtmkojdfiadbeeaaGreatProg.lean LOADS. Nothing in Lean hashes anything: it is a label: what it is worth is what the hold of that sum in a sandbox is worth. -/
noncomputable def Tryz.pinned : Pinned := { name := "ytmkojdfiadbeeaagreat", sum := "1567d1870a718abcc43f91bbee309a395569de4cf6d74ffe0913ace726811aa1", checked := Tryz.checked }
namespace Rows
def none {H : Type} : Left H := { results := [], args := [] }

/-- 'casebooklaw36.CutFound': WHATEVER THE INPUT: true; the input reads as it did. -/
def cutFoundSpec : ChangeSpec := { name := "cutFound", fn := fun _ => fun
  | [d] => { results := [.lit (.bool true)], args := [d] }
  | _ => none }
def cutFoundRow : OpenClaim := { program := "ytmkojdfiadbeeaagreat", sum := "1567d1870a718abcc43f91bbee309a395569de4cf6d74ffe0913ace726811aa1", func := "casebook/casebooklaw36.CutFound", spec := "cutFound", inPlace := ["internal/abi.NoEscape", "internal/bytealg.MakeNoZero"], unfollowed := true, recurses := true, plainKeys := false, apart := false }
def CutFoundSaid : Prop := cutFoundRow.holds Tryz.pinned (OpenSpec.ofChange cutFoundSpec)

/-- ITS FALSE NEIGHBOUR: 'it returns false'. Refute it at one input. -/
def cutFoundWrong : ChangeSpec := { name := "cutFound", fn := fun _ => fun
  | [d] => { results := [.lit (.bool false)], args := [d] }
  | _ => none }
def CutFoundWrongFalsely : Prop := cutFoundRow.holds Tryz.pinned (OpenSpec.ofChange cutFoundWrong)

/-- 'casebooklaw37.InductiveDiscovers': WHATEVER THE INPUT: true; the input reads as it did. -/
def inductiveDiscoversSpec : ChangeSpec := { name := "inductiveDiscovers", fn := fun _ => fun
  | [d] => { results := [.lit (.bool true)], args := [d] }
  | _ => none }
def inductiveDiscoversRow : OpenClaim := { program := "ytmkojdfiadbeeaagreat", sum := "1567d1870a718abcc43f91bbee309a395569de4cf6d74ffe0913ace726811aa1", func := "casebook/casebooklaw37.InductiveDiscovers", spec := "inductiveDiscovers", inPlace := ["internal/abi.NoEscape", "internal/bytealg.MakeNoZero", "internal/bytealg.abigen_runtime_cmpstring"], unfollowed := true, recurses := true, plainKeys := false, apart := false }
def InductiveDiscoversSaid : Prop := inductiveDiscoversRow.holds Tryz.pinned (OpenSpec.ofChange inductiveDiscoversSpec)

/-- ITS FALSE NEIGHBOUR: 'it returns false'. Refute it at one input. -/
def inductiveDiscoversWrong : ChangeSpec := { name := "inductiveDiscovers", fn := fun _ => fun
  | [d] => { results := [.lit (.bool false)], args := [d] }
  | _ => none }
def InductiveDiscoversWrongFalsely : Prop := inductiveDiscoversRow.holds Tryz.pinned (OpenSpec.ofChange inductiveDiscoversWrong)

/-- 'casebooklaw37.InductiveForms': WHATEVER THE INPUT: true; the input reads as it did. -/
def inductiveFormsSpec : ChangeSpec := { name := "inductiveForms", fn := fun _ => fun
  | [d1, d2] => { results := [.lit (.bool true)], args := [d1, d2] }
  | _ => none }
def inductiveFormsRow : OpenClaim := { program := "ytmkojdfiadbeeaagreat", sum := "1567d1870a718abcc43f91bbee309a395569de4cf6d74ffe0913ace726811aa1", func := "casebook/casebooklaw37.InductiveForms", spec := "inductiveForms", inPlace := ["internal/abi.NoEscape", "internal/bytealg.MakeNoZero", "internal/bytealg.abigen_runtime_cmpstring"], unfollowed := true, recurses := true, plainKeys := false, apart := false }
def InductiveFormsSaid : Prop := inductiveFormsRow.holds Tryz.pinned (OpenSpec.ofChange inductiveFormsSpec)

/-- ITS FALSE NEIGHBOUR: 'it returns false'. Refute it at one input. -/
def inductiveFormsWrong : ChangeSpec := { name := "inductiveForms", fn := fun _ => fun
  | [d1, d2] => { results := [.lit (.bool false)], args := [d1, d2] }
  | _ => none }
def InductiveFormsWrongFalsely : Prop := inductiveFormsRow.holds Tryz.pinned (OpenSpec.ofChange inductiveFormsWrong)

/-- 'casebooklaw37.InductiveNoise': WHATEVER THE INPUT: true; the input reads as it did. -/
def inductiveNoiseSpec : ChangeSpec := { name := "inductiveNoise", fn := fun _ => fun
  | [d1, d2] => { results := [.lit (.bool true)], args := [d1, d2] }
  | _ => none }
def inductiveNoiseRow : OpenClaim := { program := "ytmkojdfiadbeeaagreat", sum := "1567d1870a718abcc43f91bbee309a395569de4cf6d74ffe0913ace726811aa1", func := "casebook/casebooklaw37.InductiveNoise", spec := "inductiveNoise", inPlace := ["internal/abi.NoEscape", "internal/bytealg.MakeNoZero", "internal/bytealg.abigen_runtime_cmpstring"], unfollowed := true, recurses := true, plainKeys := false, apart := false }
def InductiveNoiseSaid : Prop := inductiveNoiseRow.holds Tryz.pinned (OpenSpec.ofChange inductiveNoiseSpec)

/-- ITS FALSE NEIGHBOUR: 'it returns false'. Refute it at one input. -/
def inductiveNoiseWrong : ChangeSpec := { name := "inductiveNoise", fn := fun _ => fun
  | [d1, d2] => { results := [.lit (.bool false)], args := [d1, d2] }
  | _ => none }
def InductiveNoiseWrongFalsely : Prop := inductiveNoiseRow.holds Tryz.pinned (OpenSpec.ofChange inductiveNoiseWrong)

/- THE SECOND FORM. 'bulk': how many values and letters a reading holds, each counted each time it is reached (what is shared counts as often as it is met; a slice's spare places count too). A statement '..UptoSaid' is the law's where the arguments, and the package variables that the reading takes, are together of bulk at most 1048576: NARROWER than '..Said'. Prove '..Said' where nothing that the law and all that it calls make is longer than what came in: it says more and counts as full. Else prove '..UptoSaid'. A law counts once. -/
mutual
def uptoBulk {H : Type} : DataW H → Nat
  | .lit (.string bytes) => bytes.length + 1
  | .lit _ => 1
  | .nil => 1
  | .ptr d => uptoBulk d + 1
  | .slice elems spare => uptoBulkAll elems + uptoBulkAll spare + 1
  | .agg parts => uptoBulkAll parts + 1
  | .iface _ d => uptoBulk d + 1
  | .map entries => uptoBulkEntries entries + 1
  | .held _ => 1
def uptoBulkAll {H : Type} : List (DataW H) → Nat
  | [] => 0
  | d :: r => uptoBulk d + uptoBulkAll r
def uptoBulkEntries {H : Type} : List (Lit × DataW H) → Nat
  | [] => 0
  | x :: r => uptoBulkEntry x + uptoBulkEntries r
def uptoBulkEntry {H : Type} : Lit × DataW H → Nat
  | (.string bytes, d) => bytes.length + uptoBulk d + 1
  | (_, d) => uptoBulk d + 1
 end
def uptoSmall : (H : Type) → List (DataW H) → Bool := fun _ ds => decide (uptoBulkAll ds ≤ 1048576)
def OpenSpec.upto (s : _root_.Go.ChangeSpec) : _root_.Go.OpenSpec := { _root_.Go.OpenSpec.ofChange s with cond := some uptoSmall }

/-- 'casebooklaw36.CutFound', WHERE WHAT IT READS IS OF BULK AT MOST 1048576: true; the input reads as it did. -/
def cutFoundUptoRow : OpenClaim := { program := "ytmkojdfiadbeeaagreat", sum := "1567d1870a718abcc43f91bbee309a395569de4cf6d74ffe0913ace726811aa1", func := "casebook/casebooklaw36.CutFound", spec := "cutFound", inPlace := ["internal/abi.NoEscape", "internal/bytealg.MakeNoZero"], unfollowed := true, recurses := true, plainKeys := false, apart := false, narrowed := true }
def CutFoundUptoSaid : Prop := cutFoundUptoRow.holds Tryz.pinned (OpenSpec.upto cutFoundSpec)

/-- 'casebooklaw37.InductiveDiscovers', WHERE WHAT IT READS IS OF BULK AT MOST 1048576: true; the input reads as it did. -/
def inductiveDiscoversUptoRow : OpenClaim := { program := "ytmkojdfiadbeeaagreat", sum := "1567d1870a718abcc43f91bbee309a395569de4cf6d74ffe0913ace726811aa1", func := "casebook/casebooklaw37.InductiveDiscovers", spec := "inductiveDiscovers", inPlace := ["internal/abi.NoEscape", "internal/bytealg.MakeNoZero", "internal/bytealg.abigen_runtime_cmpstring"], unfollowed := true, recurses := true, plainKeys := false, apart := false, narrowed := true }
def InductiveDiscoversUptoSaid : Prop := inductiveDiscoversUptoRow.holds Tryz.pinned (OpenSpec.upto inductiveDiscoversSpec)

/-- 'casebooklaw37.InductiveForms', WHERE WHAT IT READS IS OF BULK AT MOST 1048576: true; the input reads as it did. -/
def inductiveFormsUptoRow : OpenClaim := { program := "ytmkojdfiadbeeaagreat", sum := "1567d1870a718abcc43f91bbee309a395569de4cf6d74ffe0913ace726811aa1", func := "casebook/casebooklaw37.InductiveForms", spec := "inductiveForms", inPlace := ["internal/abi.NoEscape", "internal/bytealg.MakeNoZero", "internal/bytealg.abigen_runtime_cmpstring"], unfollowed := true, recurses := true, plainKeys := false, apart := false, narrowed := true }
def InductiveFormsUptoSaid : Prop := inductiveFormsUptoRow.holds Tryz.pinned (OpenSpec.upto inductiveFormsSpec)

/-- 'casebooklaw37.InductiveNoise', WHERE WHAT IT READS IS OF BULK AT MOST 1048576: true; the input reads as it did. -/
def inductiveNoiseUptoRow : OpenClaim := { program := "ytmkojdfiadbeeaagreat", sum := "1567d1870a718abcc43f91bbee309a395569de4cf6d74ffe0913ace726811aa1", func := "casebook/casebooklaw37.InductiveNoise", spec := "inductiveNoise", inPlace := ["internal/abi.NoEscape", "internal/bytealg.MakeNoZero", "internal/bytealg.abigen_runtime_cmpstring"], unfollowed := true, recurses := true, plainKeys := false, apart := false, narrowed := true }
def InductiveNoiseUptoSaid : Prop := inductiveNoiseUptoRow.holds Tryz.pinned (OpenSpec.upto inductiveNoiseSpec)

end Rows
end Go.Proofs.YtmkojdfiadbeeaaGreat
