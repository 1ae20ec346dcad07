/-
  Walks: the reference's automata: the words up to a length.
-/
import Derived.Test.YtebcjijpdhbcdaaGreatMLdV
namespace Go.Proofs.YtebcjijpdhbcdaaGreat
open Go.RowKit Go.Cb Go.En
set_option linter.all false
set_option maxRecDepth 100000

end Go.Proofs.YtebcjijpdhbcdaaGreat
