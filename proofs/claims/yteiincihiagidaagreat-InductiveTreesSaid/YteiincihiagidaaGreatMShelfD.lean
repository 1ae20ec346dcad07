/-
  No contracts of its own here: ShelfB has them.
-/
import Derived.Test.YteiincihiagidaaGreatMShelfB

