/-
  Walks: dfg.Sum: the walk.
-/
import Derived.Test.YtebcjijpdhbcdaaGreatMLeL
namespace Go.Proofs.YtebcjijpdhbcdaaGreat
open Go.RowKit Go.Cb Go.En
set_option linter.all false
set_option maxRecDepth 100000

end Go.Proofs.YtebcjijpdhbcdaaGreat
