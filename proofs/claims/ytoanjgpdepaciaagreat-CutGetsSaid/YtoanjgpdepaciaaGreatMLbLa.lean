/-
  Which cuts are cuts of a graph: two ways agree; how graphs and cuts read that came in.
-/
import Derived.Test.YtoanjgpdepaciaaGreatLd
import Derived.Test.YtoanjgpdepaciaaGreatMEwJ
import Derived.Test.YtoanjgpdepaciaaGreatEngb
namespace Go.Proofs.YtoanjgpdepaciaaGreat
open Go.RowKit Go.Cb Go.En Go.ChangeShapes Go.WideShapes Go.ChangeAt
set_option linter.all false
set_option maxRecDepth 100000



theorem plainB_lens {g : Dfg} (h : plainB g = true) : g.acts.length ≤ 10 ∧ g.starts.length ≤ 12 ∧ g.ends.length ≤ 12 ∧ g.follows.length ≤ 110 := by
  unfold plainB at h
  simp only [Bool.and_eq_true, decide_eq_true_eq] at h
  exact ⟨h.1.1.1.1.1, h.1.1.1.1.2, h.1.1.1.2, h.1.1.2⟩
theorem dStr : Dec Tryz.prog 9 1 (fun s : ByteArray => [pStr s]) (fun s => s.size ≤ 140737488355328) := dec_str Tryz.underlying9 (by kernel_rfl)
theorem dInt : Dec Tryz.prog 3 1 (fun n : Int => [pInt n]) (fun n => -9223372036854775808 ≤ n ∧ n ≤ 9223372036854775807) := dec_int Tryz.underlying3 (by kernel_rfl)
theorem dCnt : Dec Tryz.prog 62 2 cCnt (fun x => x.name.size ≤ 140737488355328 ∧ -9223372036854775808 ≤ x.n ∧ x.n ≤ 9223372036854775807) :=
  dec_map (fun x => ⟨x.1, x.2⟩) (dec_struct2 Tryz.underlying62 (by kernel_rfl) dStr dInt rfl rfl) (fun _ => rfl) (fun _ => rfl) (fun _ h => h)
theorem dCnts : Dec Tryz.prog 22 1 (fun l => [pCnts l]) fitCnt :=
  dec_map id (dec_slice Tryz.underlying22 (by kernel_rfl) (by decide) (Nat.le_of_ble_eq_true (by kernel_rfl)) dCnt) (fun _ => rfl) (fun _ => rfl) (fun _ h => h)
theorem dFlw : Dec Tryz.prog 68 3 cFlw (fun x => x.src.size ≤ 140737488355328 ∧ x.dst.size ≤ 140737488355328 ∧ -9223372036854775808 ≤ x.n ∧ x.n ≤ 9223372036854775807) :=
  dec_map (fun x => ⟨x.1, x.2.1, x.2.2⟩) (dec_struct3 Tryz.underlying68 (by kernel_rfl) dStr dStr dInt rfl rfl rfl) (fun _ => rfl) (fun _ => rfl) (fun _ h => h)
theorem dFlws : Dec Tryz.prog 23 1 (fun l => [pFlws l]) fitFlw :=
  dec_map id (dec_slice Tryz.underlying23 (by kernel_rfl) (by decide) (Nat.le_of_ble_eq_true (by kernel_rfl)) dFlw) (fun _ => rfl) (fun _ => rfl) (fun _ h => h)
theorem dDfg : Dec Tryz.prog 25 4 (fun g : Dfg => [pCnts g.acts, pCnts g.starts, pCnts g.ends, pFlws g.follows]) fitD :=
  dec_map (fun x : List Cnt × List Cnt × List Cnt × List Flw => (⟨x.1, x.2.1, x.2.2.1, x.2.2.2⟩ : Dfg)) (dec_struct4 Tryz.underlying25 (by kernel_rfl) dCnts dCnts dCnts dFlws rfl rfl rfl rfl) (fun _ => rfl) (fun _ => rfl) (fun _ h => h)
end Go.Proofs.YtoanjgpdepaciaaGreat
