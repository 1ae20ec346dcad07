/-
  Walks: the reference's automata: comparing moves, which are valid, sets of states.
-/
import Derived.Test.YtebcjijpdhbcdaaGreatLk
import Derived.Test.YtebcjijpdhbcdaaGreatLc
namespace Go.Proofs.YtebcjijpdhbcdaaGreat
open Go.RowKit Go.Cb Go.En
set_option linter.all false
set_option maxRecDepth 100000

def hasI (l : List Int) (n : Int) : Bool := l.any fun t => decide (t = n)
theorem hasI_iff {l : List Int} {n : Int} : hasI l n = true ↔ n ∈ l := by unfold hasI; simp
end Go.Proofs.YtebcjijpdhbcdaaGreat
