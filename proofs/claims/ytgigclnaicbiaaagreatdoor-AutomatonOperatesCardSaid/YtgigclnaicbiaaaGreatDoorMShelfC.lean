/-
  Nothing: this seat's program sorts no counts.
-/
import Derived.Test.YtgigclnaicbiaaaGreatDoorProg
namespace Go.Proofs
end Go.Proofs
