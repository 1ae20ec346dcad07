/-
  Walks: the counter's graph, whatever its numbers; dfg.Sum.
-/
import Derived.Test.YtebcjijpdhbcdaaGreatMLpR
import Derived.Test.YtebcjijpdhbcdaaGreatLd
import Derived.Test.YtebcjijpdhbcdaaGreatEngc
namespace Go.Proofs.YtebcjijpdhbcdaaGreat
open Go.RowKit Go.Cb Go.En
set_option linter.all false
set_option maxRecDepth 100000

end Go.Proofs.YtebcjijpdhbcdaaGreat
