/-
  Nothing: this seat's program sorts no counts.
-/
import Derived.Test.YtgigclnaicbiaaaDoorProg
namespace Go.Proofs
end Go.Proofs
