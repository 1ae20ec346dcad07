/-
  NARROWER THAN 'FOR EVERY INPUT', by the rows' own cells (each row's printed sentence says how): AutomatonLists: laid · AutomatonProducts: laid · AutomatonForms: laid · AutomatonMinimal: laid · AutomatonFinds: laid · AutomatonShuffles: laid · AutomatonFirst: laid · AutomatonBuilds: laid · AutomatonLaws: laid · AutomatonOperates: laid.
  DERIVED. THE GIVEN ROWS OF THIS SEAT. 10 by the template 'for every input the law returns true; each argument reads behind the call as it read before'; 0 by the template 'total and deterministic' (their statements: YtgigclnaicbiaaaGreatDoorTotals.lean).
  GIVEN WITH THE SEED: the statements are not yours to turn. If you find one false, say at which input.
  Laid BY PROGRAM, IN A SANDBOX (cutbox-rows.mjs): the forced cells as the released guide's own fill.sh prints them over the translation 9af0dfa373da0a39… (all of the seat's roots in one cut). By AI agents, Wed Nov 11 2026. No macro, syntax, notation, axiom, sorry.
-/
import Derived.Test.YtgigclnaicbiaaaGreatDoorChecked
import GoSem.Claim
import GoSem.ClaimJoined
import GoSem.ClaimMapViews
import Derived.JoinedTies
import Derived.KernelRfl
namespace Go.Proofs.YtgigclnaicbiaaaGreatDoor
/- THE CELL 'sum', in the pinned program and in every row, IS THE sha256 OF THE DUMP (.gsa) THAT YtgigclnaicbiaaaGreatDoorProg.lean LOADS. Nothing in Lean hashes anything: it is a label: what it is worth is what the hold of that sum in a sandbox is worth. -/
noncomputable def Tryz.pinned : Pinned := { name := "ytgigclnaicbiaaagreatdoor", sum := "9af0dfa373da0a39e79855613ae15ea6915764630d38f75d6d7aa85a7cfad431", checked := Tryz.checked }
namespace Rows
def none {H : Type} : Left H := { results := [], args := [] }

/- WHAT THE LISTED PACKAGE-LEVEL VARIABLES READ AS WHEN THE CALL BEGINS. Each datum BY PROGRAM (the guide's laid-datum.mjs) off the statement by which the dump's own 'gosem.cut.vars' lays the variable. In a bare row this is a premise. The card (YtgigclnaicbiaaaGreatDoorCards.lean) ties it to the program's text. -/
def laid_math_bits_deBruijn32tab {H : Type} : DataW H := .agg [.lit (.int .u8 0), .lit (.int .u8 1), .lit (.int .u8 28), .lit (.int .u8 2), .lit (.int .u8 29), .lit (.int .u8 14), .lit (.int .u8 24), .lit (.int .u8 3), .lit (.int .u8 30), .lit (.int .u8 22), .lit (.int .u8 20), .lit (.int .u8 15), .lit (.int .u8 25), .lit (.int .u8 17), .lit (.int .u8 4), .lit (.int .u8 8), .lit (.int .u8 31), .lit (.int .u8 27), .lit (.int .u8 13), .lit (.int .u8 23), .lit (.int .u8 21), .lit (.int .u8 19), .lit (.int .u8 16), .lit (.int .u8 7), .lit (.int .u8 26), .lit (.int .u8 12), .lit (.int .u8 18), .lit (.int .u8 6), .lit (.int .u8 11), .lit (.int .u8 5), .lit (.int .u8 10), .lit (.int .u8 9)]
def laid_math_bits_deBruijn64tab {H : Type} : DataW H := .agg [.lit (.int .u8 0), .lit (.int .u8 1), .lit (.int .u8 56), .lit (.int .u8 2), .lit (.int .u8 57), .lit (.int .u8 49), .lit (.int .u8 28), .lit (.int .u8 3), .lit (.int .u8 61), .lit (.int .u8 58), .lit (.int .u8 42), .lit (.int .u8 50), .lit (.int .u8 38), .lit (.int .u8 29), .lit (.int .u8 17), .lit (.int .u8 4), .lit (.int .u8 62), .lit (.int .u8 47), .lit (.int .u8 59), .lit (.int .u8 36), .lit (.int .u8 45), .lit (.int .u8 43), .lit (.int .u8 51), .lit (.int .u8 22), .lit (.int .u8 53), .lit (.int .u8 39), .lit (.int .u8 33), .lit (.int .u8 30), .lit (.int .u8 24), .lit (.int .u8 18), .lit (.int .u8 12), .lit (.int .u8 5), .lit (.int .u8 63), .lit (.int .u8 55), .lit (.int .u8 48), .lit (.int .u8 27), .lit (.int .u8 60), .lit (.int .u8 41), .lit (.int .u8 37), .lit (.int .u8 16), .lit (.int .u8 46), .lit (.int .u8 35), .lit (.int .u8 44), .lit (.int .u8 21), .lit (.int .u8 52), .lit (.int .u8 32), .lit (.int .u8 23), .lit (.int .u8 11), .lit (.int .u8 54), .lit (.int .u8 26), .lit (.int .u8 40), .lit (.int .u8 15), .lit (.int .u8 34), .lit (.int .u8 20), .lit (.int .u8 31), .lit (.int .u8 10), .lit (.int .u8 25), .lit (.int .u8 14), .lit (.int .u8 19), .lit (.int .u8 9), .lit (.int .u8 13), .lit (.int .u8 8), .lit (.int .u8 7), .lit (.int .u8 6)]
def laid_internal_strconv_uint64pow10 {H : Type} : DataW H := .agg [.lit (.int .u64 1), .lit (.int .u64 10), .lit (.int .u64 100), .lit (.int .u64 1000), .lit (.int .u64 10000), .lit (.int .u64 100000), .lit (.int .u64 1000000), .lit (.int .u64 10000000), .lit (.int .u64 100000000), .lit (.int .u64 1000000000), .lit (.int .u64 10000000000), .lit (.int .u64 100000000000), .lit (.int .u64 1000000000000), .lit (.int .u64 10000000000000), .lit (.int .u64 100000000000000), .lit (.int .u64 1000000000000000), .lit (.int .u64 10000000000000000), .lit (.int .u64 100000000000000000), .lit (.int .u64 1000000000000000000), .lit (.int .u64 10000000000000000000)]

/-- 'casebooklaw07.AutomatonLists': WHATEVER THE INPUT: true; the input reads as it did. -/
def automatonListsSpec : ChangeSpec := { name := "automatonLists", fn := fun _ => fun
  | [d1, d2] => { results := [.lit (.bool true)], args := [d1, d2] }
  | _ => none }
def automatonListsRow : OpenClaim := { program := "ytgigclnaicbiaaagreatdoor", sum := "9af0dfa373da0a39e79855613ae15ea6915764630d38f75d6d7aa85a7cfad431", func := "casebook/casebooklaw07.AutomatonLists", spec := "automatonLists", unfollowed := true, recurses := true, named := ["internal/strconv.uint64pow10", "math/bits.deBruijn32tab", "math/bits.deBruijn64tab"], plainKeys := false, apart := false, laid := [("math/bits.deBruijn32tab", laid_math_bits_deBruijn32tab), ("math/bits.deBruijn64tab", laid_math_bits_deBruijn64tab), ("internal/strconv.uint64pow10", laid_internal_strconv_uint64pow10)] }
def AutomatonListsSaid : Prop := automatonListsRow.holds Tryz.pinned (OpenSpec.ofChange automatonListsSpec)

/-- ITS FALSE NEIGHBOUR: 'it returns false'. Refute it at one input. -/
def automatonListsWrong : ChangeSpec := { name := "automatonLists", fn := fun _ => fun
  | [d1, d2] => { results := [.lit (.bool false)], args := [d1, d2] }
  | _ => none }
def AutomatonListsWrongFalsely : Prop := automatonListsRow.holds Tryz.pinned (OpenSpec.ofChange automatonListsWrong)

/-- 'casebooklaw07.AutomatonProducts': WHATEVER THE INPUT: true; the input reads as it did. -/
def automatonProductsSpec : ChangeSpec := { name := "automatonProducts", fn := fun _ => fun
  | [d1, d2, d3] => { results := [.lit (.bool true)], args := [d1, d2, d3] }
  | _ => none }
def automatonProductsRow : OpenClaim := { program := "ytgigclnaicbiaaagreatdoor", sum := "9af0dfa373da0a39e79855613ae15ea6915764630d38f75d6d7aa85a7cfad431", func := "casebook/casebooklaw07.AutomatonProducts", spec := "automatonProducts", unfollowed := true, recurses := true, named := ["internal/strconv.uint64pow10", "math/bits.deBruijn32tab", "math/bits.deBruijn64tab"], plainKeys := false, apart := false, laid := [("math/bits.deBruijn32tab", laid_math_bits_deBruijn32tab), ("math/bits.deBruijn64tab", laid_math_bits_deBruijn64tab), ("internal/strconv.uint64pow10", laid_internal_strconv_uint64pow10)] }
def AutomatonProductsSaid : Prop := automatonProductsRow.holds Tryz.pinned (OpenSpec.ofChange automatonProductsSpec)

/-- ITS FALSE NEIGHBOUR: 'it returns false'. Refute it at one input. -/
def automatonProductsWrong : ChangeSpec := { name := "automatonProducts", fn := fun _ => fun
  | [d1, d2, d3] => { results := [.lit (.bool false)], args := [d1, d2, d3] }
  | _ => none }
def AutomatonProductsWrongFalsely : Prop := automatonProductsRow.holds Tryz.pinned (OpenSpec.ofChange automatonProductsWrong)

/-- 'casebooklaw07.AutomatonForms': WHATEVER THE INPUT: true; the input reads as it did. -/
def automatonFormsSpec : ChangeSpec := { name := "automatonForms", fn := fun _ => fun
  | [d1, d2] => { results := [.lit (.bool true)], args := [d1, d2] }
  | _ => none }
def automatonFormsRow : OpenClaim := { program := "ytgigclnaicbiaaagreatdoor", sum := "9af0dfa373da0a39e79855613ae15ea6915764630d38f75d6d7aa85a7cfad431", func := "casebook/casebooklaw07.AutomatonForms", spec := "automatonForms", unfollowed := true, recurses := true, named := ["internal/strconv.uint64pow10", "math/bits.deBruijn32tab", "math/bits.deBruijn64tab"], plainKeys := false, apart := false, laid := [("math/bits.deBruijn32tab", laid_math_bits_deBruijn32tab), ("math/bits.deBruijn64tab", laid_math_bits_deBruijn64tab), ("internal/strconv.uint64pow10", laid_internal_strconv_uint64pow10)] }
def AutomatonFormsSaid : Prop := automatonFormsRow.holds Tryz.pinned (OpenSpec.ofChange automatonFormsSpec)

/-- ITS FALSE NEIGHBOUR: 'it returns false'. Refute it at one input. -/
def automatonFormsWrong : ChangeSpec := { name := "automatonForms", fn := fun _ => fun
  | [d1, d2] => { results := [.lit (.bool false)], args := [d1, d2] }
  | _ => none }
def AutomatonFormsWrongFalsely : Prop := automatonFormsRow.holds Tryz.pinned (OpenSpec.ofChange automatonFormsWrong)

/-- 'casebooklaw07.AutomatonMinimal': WHATEVER THE INPUT: true; the input reads as it did. -/
def automatonMinimalSpec : ChangeSpec := { name := "automatonMinimal", fn := fun _ => fun
  | [d] => { results := [.lit (.bool true)], args := [d] }
  | _ => none }
def automatonMinimalRow : OpenClaim := { program := "ytgigclnaicbiaaagreatdoor", sum := "9af0dfa373da0a39e79855613ae15ea6915764630d38f75d6d7aa85a7cfad431", func := "casebook/casebooklaw07.AutomatonMinimal", spec := "automatonMinimal", unfollowed := true, recurses := true, named := ["internal/strconv.uint64pow10", "math/bits.deBruijn32tab", "math/bits.deBruijn64tab"], plainKeys := false, apart := false, laid := [("math/bits.deBruijn32tab", laid_math_bits_deBruijn32tab), ("math/bits.deBruijn64tab", laid_math_bits_deBruijn64tab), ("internal/strconv.uint64pow10", laid_internal_strconv_uint64pow10)] }
def AutomatonMinimalSaid : Prop := automatonMinimalRow.holds Tryz.pinned (OpenSpec.ofChange automatonMinimalSpec)

/-- ITS FALSE NEIGHBOUR: 'it returns false'. Refute it at one input. -/
def automatonMinimalWrong : ChangeSpec := { name := "automatonMinimal", fn := fun _ => fun
  | [d] => { results := [.lit (.bool false)], args := [d] }
  | _ => none }
def AutomatonMinimalWrongFalsely : Prop := automatonMinimalRow.holds Tryz.pinned (OpenSpec.ofChange automatonMinimalWrong)

/-- 'casebooklaw07.AutomatonFinds': WHATEVER THE INPUT: true; the input reads as it did. -/
def automatonFindsSpec : ChangeSpec := { name := "automatonFinds", fn := fun _ => fun
  | [d1, d2] => { results := [.lit (.bool true)], args := [d1, d2] }
  | _ => none }
def automatonFindsRow : OpenClaim := { program := "ytgigclnaicbiaaagreatdoor", sum := "9af0dfa373da0a39e79855613ae15ea6915764630d38f75d6d7aa85a7cfad431", func := "casebook/casebooklaw07.AutomatonFinds", spec := "automatonFinds", unfollowed := true, recurses := true, named := ["internal/strconv.uint64pow10", "math/bits.deBruijn32tab", "math/bits.deBruijn64tab"], plainKeys := false, apart := false, laid := [("math/bits.deBruijn32tab", laid_math_bits_deBruijn32tab), ("math/bits.deBruijn64tab", laid_math_bits_deBruijn64tab), ("internal/strconv.uint64pow10", laid_internal_strconv_uint64pow10)] }
def AutomatonFindsSaid : Prop := automatonFindsRow.holds Tryz.pinned (OpenSpec.ofChange automatonFindsSpec)

/-- ITS FALSE NEIGHBOUR: 'it returns false'. Refute it at one input. -/
def automatonFindsWrong : ChangeSpec := { name := "automatonFinds", fn := fun _ => fun
  | [d1, d2] => { results := [.lit (.bool false)], args := [d1, d2] }
  | _ => none }
def AutomatonFindsWrongFalsely : Prop := automatonFindsRow.holds Tryz.pinned (OpenSpec.ofChange automatonFindsWrong)

/-- 'casebooklaw07.AutomatonShuffles': WHATEVER THE INPUT: true; the input reads as it did. -/
def automatonShufflesSpec : ChangeSpec := { name := "automatonShuffles", fn := fun _ => fun
  | [d1, d2] => { results := [.lit (.bool true)], args := [d1, d2] }
  | _ => none }
def automatonShufflesRow : OpenClaim := { program := "ytgigclnaicbiaaagreatdoor", sum := "9af0dfa373da0a39e79855613ae15ea6915764630d38f75d6d7aa85a7cfad431", func := "casebook/casebooklaw07.AutomatonShuffles", spec := "automatonShuffles", unfollowed := true, recurses := true, named := ["internal/strconv.uint64pow10", "math/bits.deBruijn32tab", "math/bits.deBruijn64tab"], plainKeys := false, apart := false, laid := [("math/bits.deBruijn32tab", laid_math_bits_deBruijn32tab), ("math/bits.deBruijn64tab", laid_math_bits_deBruijn64tab), ("internal/strconv.uint64pow10", laid_internal_strconv_uint64pow10)] }
def AutomatonShufflesSaid : Prop := automatonShufflesRow.holds Tryz.pinned (OpenSpec.ofChange automatonShufflesSpec)

/-- ITS FALSE NEIGHBOUR: 'it returns false'. Refute it at one input. -/
def automatonShufflesWrong : ChangeSpec := { name := "automatonShuffles", fn := fun _ => fun
  | [d1, d2] => { results := [.lit (.bool false)], args := [d1, d2] }
  | _ => none }
def AutomatonShufflesWrongFalsely : Prop := automatonShufflesRow.holds Tryz.pinned (OpenSpec.ofChange automatonShufflesWrong)

/-- 'casebooklaw07.AutomatonFirst': WHATEVER THE INPUT: true; the input reads as it did. -/
def automatonFirstSpec : ChangeSpec := { name := "automatonFirst", fn := fun _ => fun
  | [d1, d2] => { results := [.lit (.bool true)], args := [d1, d2] }
  | _ => none }
def automatonFirstRow : OpenClaim := { program := "ytgigclnaicbiaaagreatdoor", sum := "9af0dfa373da0a39e79855613ae15ea6915764630d38f75d6d7aa85a7cfad431", func := "casebook/casebooklaw07.AutomatonFirst", spec := "automatonFirst", unfollowed := true, recurses := true, named := ["internal/strconv.uint64pow10", "math/bits.deBruijn32tab", "math/bits.deBruijn64tab"], plainKeys := false, apart := false, laid := [("math/bits.deBruijn32tab", laid_math_bits_deBruijn32tab), ("math/bits.deBruijn64tab", laid_math_bits_deBruijn64tab), ("internal/strconv.uint64pow10", laid_internal_strconv_uint64pow10)] }
def AutomatonFirstSaid : Prop := automatonFirstRow.holds Tryz.pinned (OpenSpec.ofChange automatonFirstSpec)

/-- ITS FALSE NEIGHBOUR: 'it returns false'. Refute it at one input. -/
def automatonFirstWrong : ChangeSpec := { name := "automatonFirst", fn := fun _ => fun
  | [d1, d2] => { results := [.lit (.bool false)], args := [d1, d2] }
  | _ => none }
def AutomatonFirstWrongFalsely : Prop := automatonFirstRow.holds Tryz.pinned (OpenSpec.ofChange automatonFirstWrong)

/-- 'casebooklaw07.AutomatonBuilds': WHATEVER THE INPUT: true; the input reads as it did. -/
def automatonBuildsSpec : ChangeSpec := { name := "automatonBuilds", fn := fun _ => fun
  | [d1, d2] => { results := [.lit (.bool true)], args := [d1, d2] }
  | _ => none }
def automatonBuildsRow : OpenClaim := { program := "ytgigclnaicbiaaagreatdoor", sum := "9af0dfa373da0a39e79855613ae15ea6915764630d38f75d6d7aa85a7cfad431", func := "casebook/casebooklaw07.AutomatonBuilds", spec := "automatonBuilds", unfollowed := true, recurses := true, named := ["internal/strconv.uint64pow10", "math/bits.deBruijn32tab", "math/bits.deBruijn64tab"], plainKeys := false, apart := false, laid := [("math/bits.deBruijn32tab", laid_math_bits_deBruijn32tab), ("math/bits.deBruijn64tab", laid_math_bits_deBruijn64tab), ("internal/strconv.uint64pow10", laid_internal_strconv_uint64pow10)] }
def AutomatonBuildsSaid : Prop := automatonBuildsRow.holds Tryz.pinned (OpenSpec.ofChange automatonBuildsSpec)

/-- ITS FALSE NEIGHBOUR: 'it returns false'. Refute it at one input. -/
def automatonBuildsWrong : ChangeSpec := { name := "automatonBuilds", fn := fun _ => fun
  | [d1, d2] => { results := [.lit (.bool false)], args := [d1, d2] }
  | _ => none }
def AutomatonBuildsWrongFalsely : Prop := automatonBuildsRow.holds Tryz.pinned (OpenSpec.ofChange automatonBuildsWrong)

/-- 'casebooklaw07.AutomatonLaws': WHATEVER THE INPUT: true; the input reads as it did. -/
def automatonLawsSpec : ChangeSpec := { name := "automatonLaws", fn := fun _ => fun
  | [d1, d2] => { results := [.lit (.bool true)], args := [d1, d2] }
  | _ => none }
def automatonLawsRow : OpenClaim := { program := "ytgigclnaicbiaaagreatdoor", sum := "9af0dfa373da0a39e79855613ae15ea6915764630d38f75d6d7aa85a7cfad431", func := "casebook/casebooklaw07.AutomatonLaws", spec := "automatonLaws", unfollowed := true, recurses := true, named := ["internal/strconv.uint64pow10", "math/bits.deBruijn32tab", "math/bits.deBruijn64tab"], plainKeys := false, apart := false, laid := [("math/bits.deBruijn32tab", laid_math_bits_deBruijn32tab), ("math/bits.deBruijn64tab", laid_math_bits_deBruijn64tab), ("internal/strconv.uint64pow10", laid_internal_strconv_uint64pow10)] }
def AutomatonLawsSaid : Prop := automatonLawsRow.holds Tryz.pinned (OpenSpec.ofChange automatonLawsSpec)

/-- ITS FALSE NEIGHBOUR: 'it returns false'. Refute it at one input. -/
def automatonLawsWrong : ChangeSpec := { name := "automatonLaws", fn := fun _ => fun
  | [d1, d2] => { results := [.lit (.bool false)], args := [d1, d2] }
  | _ => none }
def AutomatonLawsWrongFalsely : Prop := automatonLawsRow.holds Tryz.pinned (OpenSpec.ofChange automatonLawsWrong)

/-- 'casebooklaw07.AutomatonOperates': WHATEVER THE INPUT: true; the input reads as it did. -/
def automatonOperatesSpec : ChangeSpec := { name := "automatonOperates", fn := fun _ => fun
  | [d1, d2, d3, d4] => { results := [.lit (.bool true)], args := [d1, d2, d3, d4] }
  | _ => none }
def automatonOperatesRow : OpenClaim := { program := "ytgigclnaicbiaaagreatdoor", sum := "9af0dfa373da0a39e79855613ae15ea6915764630d38f75d6d7aa85a7cfad431", func := "casebook/casebooklaw07.AutomatonOperates", spec := "automatonOperates", unfollowed := true, recurses := true, named := ["internal/strconv.uint64pow10", "math/bits.deBruijn32tab", "math/bits.deBruijn64tab"], plainKeys := false, apart := false, laid := [("math/bits.deBruijn32tab", laid_math_bits_deBruijn32tab), ("math/bits.deBruijn64tab", laid_math_bits_deBruijn64tab), ("internal/strconv.uint64pow10", laid_internal_strconv_uint64pow10)] }
def AutomatonOperatesSaid : Prop := automatonOperatesRow.holds Tryz.pinned (OpenSpec.ofChange automatonOperatesSpec)

/-- ITS FALSE NEIGHBOUR: 'it returns false'. Refute it at one input. -/
def automatonOperatesWrong : ChangeSpec := { name := "automatonOperates", fn := fun _ => fun
  | [d1, d2, d3, d4] => { results := [.lit (.bool false)], args := [d1, d2, d3, d4] }
  | _ => none }
def AutomatonOperatesWrongFalsely : Prop := automatonOperatesRow.holds Tryz.pinned (OpenSpec.ofChange automatonOperatesWrong)

/- THE SECOND FORM. 'bulk': how many values and letters a reading holds, each counted each time it is reached (what is shared counts as often as it is met; a slice's spare places count too). A statement '..UptoSaid' is the law's where the arguments, and the package variables that the reading takes, are together of bulk at most 1048576: NARROWER than '..Said'. Prove '..Said' where nothing that the law and all that it calls make is longer than what came in: it says more and counts as full. Else prove '..UptoSaid'. A law counts once. -/
mutual
def uptoBulk {H : Type} : DataW H → Nat
  | .lit (.string bytes) => bytes.length + 1
  | .lit _ => 1
  | .nil => 1
  | .ptr d => uptoBulk d + 1
  | .slice elems spare => uptoBulkAll elems + uptoBulkAll spare + 1
  | .agg parts => uptoBulkAll parts + 1
  | .iface _ d => uptoBulk d + 1
  | .map entries => uptoBulkEntries entries + 1
  | .held _ => 1
def uptoBulkAll {H : Type} : List (DataW H) → Nat
  | [] => 0
  | d :: r => uptoBulk d + uptoBulkAll r
def uptoBulkEntries {H : Type} : List (Lit × DataW H) → Nat
  | [] => 0
  | x :: r => uptoBulkEntry x + uptoBulkEntries r
def uptoBulkEntry {H : Type} : Lit × DataW H → Nat
  | (.string bytes, d) => bytes.length + uptoBulk d + 1
  | (_, d) => uptoBulk d + 1
 end
def uptoSmall : (H : Type) → List (DataW H) → Bool := fun _ ds => decide (uptoBulkAll ds ≤ 1048576)
def OpenSpec.upto (s : _root_.Go.ChangeSpec) : _root_.Go.OpenSpec := { _root_.Go.OpenSpec.ofChange s with cond := some uptoSmall }

/-- 'casebooklaw07.AutomatonLists', WHERE WHAT IT READS IS OF BULK AT MOST 1048576: true; the input reads as it did. -/
def automatonListsUptoRow : OpenClaim := { program := "ytgigclnaicbiaaagreatdoor", sum := "9af0dfa373da0a39e79855613ae15ea6915764630d38f75d6d7aa85a7cfad431", func := "casebook/casebooklaw07.AutomatonLists", spec := "automatonLists", unfollowed := true, recurses := true, named := ["internal/strconv.uint64pow10", "math/bits.deBruijn32tab", "math/bits.deBruijn64tab"], plainKeys := false, apart := false, laid := [("math/bits.deBruijn32tab", laid_math_bits_deBruijn32tab), ("math/bits.deBruijn64tab", laid_math_bits_deBruijn64tab), ("internal/strconv.uint64pow10", laid_internal_strconv_uint64pow10)], narrowed := true }
def AutomatonListsUptoSaid : Prop := automatonListsUptoRow.holds Tryz.pinned (OpenSpec.upto automatonListsSpec)

/-- 'casebooklaw07.AutomatonProducts', WHERE WHAT IT READS IS OF BULK AT MOST 1048576: true; the input reads as it did. -/
def automatonProductsUptoRow : OpenClaim := { program := "ytgigclnaicbiaaagreatdoor", sum := "9af0dfa373da0a39e79855613ae15ea6915764630d38f75d6d7aa85a7cfad431", func := "casebook/casebooklaw07.AutomatonProducts", spec := "automatonProducts", unfollowed := true, recurses := true, named := ["internal/strconv.uint64pow10", "math/bits.deBruijn32tab", "math/bits.deBruijn64tab"], plainKeys := false, apart := false, laid := [("math/bits.deBruijn32tab", laid_math_bits_deBruijn32tab), ("math/bits.deBruijn64tab", laid_math_bits_deBruijn64tab), ("internal/strconv.uint64pow10", laid_internal_strconv_uint64pow10)], narrowed := true }
def AutomatonProductsUptoSaid : Prop := automatonProductsUptoRow.holds Tryz.pinned (OpenSpec.upto automatonProductsSpec)

/-- 'casebooklaw07.AutomatonForms', WHERE WHAT IT READS IS OF BULK AT MOST 1048576: true; the input reads as it did. -/
def automatonFormsUptoRow : OpenClaim := { program := "ytgigclnaicbiaaagreatdoor", sum := "9af0dfa373da0a39e79855613ae15ea6915764630d38f75d6d7aa85a7cfad431", func := "casebook/casebooklaw07.AutomatonForms", spec := "automatonForms", unfollowed := true, recurses := true, named := ["internal/strconv.uint64pow10", "math/bits.deBruijn32tab", "math/bits.deBruijn64tab"], plainKeys := false, apart := false, laid := [("math/bits.deBruijn32tab", laid_math_bits_deBruijn32tab), ("math/bits.deBruijn64tab", laid_math_bits_deBruijn64tab), ("internal/strconv.uint64pow10", laid_internal_strconv_uint64pow10)], narrowed := true }
def AutomatonFormsUptoSaid : Prop := automatonFormsUptoRow.holds Tryz.pinned (OpenSpec.upto automatonFormsSpec)

/-- 'casebooklaw07.AutomatonMinimal', WHERE WHAT IT READS IS OF BULK AT MOST 1048576: true; the input reads as it did. -/
def automatonMinimalUptoRow : OpenClaim := { program := "ytgigclnaicbiaaagreatdoor", sum := "9af0dfa373da0a39e79855613ae15ea6915764630d38f75d6d7aa85a7cfad431", func := "casebook/casebooklaw07.AutomatonMinimal", spec := "automatonMinimal", unfollowed := true, recurses := true, named := ["internal/strconv.uint64pow10", "math/bits.deBruijn32tab", "math/bits.deBruijn64tab"], plainKeys := false, apart := false, laid := [("math/bits.deBruijn32tab", laid_math_bits_deBruijn32tab), ("math/bits.deBruijn64tab", laid_math_bits_deBruijn64tab), ("internal/strconv.uint64pow10", laid_internal_strconv_uint64pow10)], narrowed := true }
def AutomatonMinimalUptoSaid : Prop := automatonMinimalUptoRow.holds Tryz.pinned (OpenSpec.upto automatonMinimalSpec)

/-- 'casebooklaw07.AutomatonFinds', WHERE WHAT IT READS IS OF BULK AT MOST 1048576: true; the input reads as it did. -/
def automatonFindsUptoRow : OpenClaim := { program := "ytgigclnaicbiaaagreatdoor", sum := "9af0dfa373da0a39e79855613ae15ea6915764630d38f75d6d7aa85a7cfad431", func := "casebook/casebooklaw07.AutomatonFinds", spec := "automatonFinds", unfollowed := true, recurses := true, named := ["internal/strconv.uint64pow10", "math/bits.deBruijn32tab", "math/bits.deBruijn64tab"], plainKeys := false, apart := false, laid := [("math/bits.deBruijn32tab", laid_math_bits_deBruijn32tab), ("math/bits.deBruijn64tab", laid_math_bits_deBruijn64tab), ("internal/strconv.uint64pow10", laid_internal_strconv_uint64pow10)], narrowed := true }
def AutomatonFindsUptoSaid : Prop := automatonFindsUptoRow.holds Tryz.pinned (OpenSpec.upto automatonFindsSpec)

/-- 'casebooklaw07.AutomatonShuffles', WHERE WHAT IT READS IS OF BULK AT MOST 1048576: true; the input reads as it did. -/
def automatonShufflesUptoRow : OpenClaim := { program := "ytgigclnaicbiaaagreatdoor", sum := "9af0dfa373da0a39e79855613ae15ea6915764630d38f75d6d7aa85a7cfad431", func := "casebook/casebooklaw07.AutomatonShuffles", spec := "automatonShuffles", unfollowed := true, recurses := true, named := ["internal/strconv.uint64pow10", "math/bits.deBruijn32tab", "math/bits.deBruijn64tab"], plainKeys := false, apart := false, laid := [("math/bits.deBruijn32tab", laid_math_bits_deBruijn32tab), ("math/bits.deBruijn64tab", laid_math_bits_deBruijn64tab), ("internal/strconv.uint64pow10", laid_internal_strconv_uint64pow10)], narrowed := true }
def AutomatonShufflesUptoSaid : Prop := automatonShufflesUptoRow.holds Tryz.pinned (OpenSpec.upto automatonShufflesSpec)

/-- 'casebooklaw07.AutomatonFirst', WHERE WHAT IT READS IS OF BULK AT MOST 1048576: true; the input reads as it did. -/
def automatonFirstUptoRow : OpenClaim := { program := "ytgigclnaicbiaaagreatdoor", sum := "9af0dfa373da0a39e79855613ae15ea6915764630d38f75d6d7aa85a7cfad431", func := "casebook/casebooklaw07.AutomatonFirst", spec := "automatonFirst", unfollowed := true, recurses := true, named := ["internal/strconv.uint64pow10", "math/bits.deBruijn32tab", "math/bits.deBruijn64tab"], plainKeys := false, apart := false, laid := [("math/bits.deBruijn32tab", laid_math_bits_deBruijn32tab), ("math/bits.deBruijn64tab", laid_math_bits_deBruijn64tab), ("internal/strconv.uint64pow10", laid_internal_strconv_uint64pow10)], narrowed := true }
def AutomatonFirstUptoSaid : Prop := automatonFirstUptoRow.holds Tryz.pinned (OpenSpec.upto automatonFirstSpec)

/-- 'casebooklaw07.AutomatonBuilds', WHERE WHAT IT READS IS OF BULK AT MOST 1048576: true; the input reads as it did. -/
def automatonBuildsUptoRow : OpenClaim := { program := "ytgigclnaicbiaaagreatdoor", sum := "9af0dfa373da0a39e79855613ae15ea6915764630d38f75d6d7aa85a7cfad431", func := "casebook/casebooklaw07.AutomatonBuilds", spec := "automatonBuilds", unfollowed := true, recurses := true, named := ["internal/strconv.uint64pow10", "math/bits.deBruijn32tab", "math/bits.deBruijn64tab"], plainKeys := false, apart := false, laid := [("math/bits.deBruijn32tab", laid_math_bits_deBruijn32tab), ("math/bits.deBruijn64tab", laid_math_bits_deBruijn64tab), ("internal/strconv.uint64pow10", laid_internal_strconv_uint64pow10)], narrowed := true }
def AutomatonBuildsUptoSaid : Prop := automatonBuildsUptoRow.holds Tryz.pinned (OpenSpec.upto automatonBuildsSpec)

/-- 'casebooklaw07.AutomatonLaws', WHERE WHAT IT READS IS OF BULK AT MOST 1048576: true; the input reads as it did. -/
def automatonLawsUptoRow : OpenClaim := { program := "ytgigclnaicbiaaagreatdoor", sum := "9af0dfa373da0a39e79855613ae15ea6915764630d38f75d6d7aa85a7cfad431", func := "casebook/casebooklaw07.AutomatonLaws", spec := "automatonLaws", unfollowed := true, recurses := true, named := ["internal/strconv.uint64pow10", "math/bits.deBruijn32tab", "math/bits.deBruijn64tab"], plainKeys := false, apart := false, laid := [("math/bits.deBruijn32tab", laid_math_bits_deBruijn32tab), ("math/bits.deBruijn64tab", laid_math_bits_deBruijn64tab), ("internal/strconv.uint64pow10", laid_internal_strconv_uint64pow10)], narrowed := true }
def AutomatonLawsUptoSaid : Prop := automatonLawsUptoRow.holds Tryz.pinned (OpenSpec.upto automatonLawsSpec)

/-- 'casebooklaw07.AutomatonOperates', WHERE WHAT IT READS IS OF BULK AT MOST 1048576: true; the input reads as it did. -/
def automatonOperatesUptoRow : OpenClaim := { program := "ytgigclnaicbiaaagreatdoor", sum := "9af0dfa373da0a39e79855613ae15ea6915764630d38f75d6d7aa85a7cfad431", func := "casebook/casebooklaw07.AutomatonOperates", spec := "automatonOperates", unfollowed := true, recurses := true, named := ["internal/strconv.uint64pow10", "math/bits.deBruijn32tab", "math/bits.deBruijn64tab"], plainKeys := false, apart := false, laid := [("math/bits.deBruijn32tab", laid_math_bits_deBruijn32tab), ("math/bits.deBruijn64tab", laid_math_bits_deBruijn64tab), ("internal/strconv.uint64pow10", laid_internal_strconv_uint64pow10)], narrowed := true }
def AutomatonOperatesUptoSaid : Prop := automatonOperatesUptoRow.holds Tryz.pinned (OpenSpec.upto automatonOperatesSpec)

end Rows
end Go.Proofs.YtgigclnaicbiaaaGreatDoor
