/-
  Nothing: this seat's program sorts no counts.
-/
import Derived.Test.YtgfabnhpllkebaaGreatDoorProg
namespace Go.Proofs
end Go.Proofs
