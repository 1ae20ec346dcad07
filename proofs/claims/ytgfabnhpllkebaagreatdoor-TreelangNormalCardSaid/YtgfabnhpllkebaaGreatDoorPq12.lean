/-
  Walks: the reference's automata: the pairs of two least automata.
  Walks: the reference's automata: Product.
  Walks: the reference's automata: given, added, moved, insert, finish.
  Walks: the reference's automata: Union, Star, Reverse.
  Walks: the reference's automata: Concat.
  Walks: the reference's automata: Shuffle.
  Walks: languages of trees: the reference's automata of words, and of trees out of those of their parts.
-/
import Derived.Test.YtgfabnhpllkebaaGreatDoorPq11
import Derived.Test.YtgfabnhpllkebaaGreatDoorPq10
import Derived.Test.YtgfabnhpllkebaaGreatDoorPq09
import Derived.Test.YtgfabnhpllkebaaGreatDoorPq01
namespace Go.Proofs.YtgfabnhpllkebaaGreatDoor
open Go.RowKit Go.Cb Go.En
set_option linter.all false
set_option maxRecDepth 100000
end Go.Proofs.YtgfabnhpllkebaaGreatDoor
