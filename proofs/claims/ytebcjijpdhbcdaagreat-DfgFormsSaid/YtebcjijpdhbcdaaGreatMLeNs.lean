/-
  What sums and thresholds of graphs are: one value for each.
-/
import Derived.Test.YtebcjijpdhbcdaaGreatLn
import Derived.Test.YtebcjijpdhbcdaaGreatMLeN
import Derived.Test.YtebcjijpdhbcdaaGreatLj
namespace Go.Proofs.YtebcjijpdhbcdaaGreat
open Go.RowKit Go.Cb Go.En
set_option linter.all false
set_option maxRecDepth 100000



theorem great_lens' {g : Dfg} (h : greatB g = false) : g.acts.length ≤ 60 ∧ g.starts.length ≤ 60 ∧ g.ends.length ≤ 60 ∧ g.follows.length ≤ 80 := by
  unfold greatB greatC at h
  simp only [Bool.or_eq_false_iff, decide_eq_false_iff_not] at h
  omega
end Go.Proofs.YtebcjijpdhbcdaaGreat
