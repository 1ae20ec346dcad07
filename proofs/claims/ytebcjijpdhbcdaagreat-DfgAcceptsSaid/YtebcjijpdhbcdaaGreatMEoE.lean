/-
  The engine: fields of struct values, elements of arrays that are shared. No program in sight.
-/
import Derived.Test.YtebcjijpdhbcdaaGreatEngc
namespace Go.En
open Go.RowKit Go.Cb
set_option linter.all false
section
variable {P : Program} {st : St} {o : Oper}
end
end Go.En
