/-
  Walks of the reference: counts are compared.
  Walks of the reference: graphs are compared.
  Walks of the reference: Threshold.
-/
import Derived.Test.YtebcjijpdhbcdaaGreatLh
import Derived.Test.YtebcjijpdhbcdaaGreatEngc
import Derived.Test.YtebcjijpdhbcdaaGreatLc
namespace Go.Proofs.YtebcjijpdhbcdaaGreat
open Go.RowKit Go.Cb Go.En
set_option linter.all false
set_option maxRecDepth 100000

def flwEq (a b : Flw) : Bool := (a.src.toList == b.src.toList) && ((a.dst.toList == b.dst.toList) && (a.n == b.n))
theorem eqFlw_run (a b : Flw) (w : World) : (Op.eqFields 9999 [Value.string a.src, .string a.dst, .int .i64 a.n].toArray [Value.string b.src, .string b.dst, .int .i64 b.n].toArray (Tryz.prog.fieldsOf 47).toList).run Tryz.prog w = .ok (flwEq a b) w := by
  simp only [Program.fieldsOf, Tryz.underlying47]
  simp [Op.eqFields, part, run_equalIn_string w 9998 9 a.src b.src Tryz.underlying9, run_equalIn_string w 9998 9 a.dst b.dst Tryz.underlying9, run_equalIn_int w 9998 3 .i64 .i64 a.n b.n Tryz.underlying3]
  unfold flwEq
  by_cases h1 : a.src.toList = b.src.toList
  · by_cases h3 : a.dst.toList = b.dst.toList
    · by_cases h2 : a.n = b.n <;> simp [h1, h2, h3]
    · simp [h1, h3]
  · simp [h1]
theorem gFlw : Tryz.prog.eqGuardType Tryz.prog.depth 47 = false := by kernel_rfl
theorem hFlw : Tryz.prog.stoodInHeld 47 = false := by kernel_rfl
theorem uFlw : Tryz.prog.underlying 47 = some (.struct (Tryz.prog.fieldsOf 47)) := by kernel_rfl
end Go.Proofs.YtebcjijpdhbcdaaGreat

namespace Go.Proofs.YtebcjijpdhbcdaaGreat
open Go.RowKit Go.Cb Go.En
set_option linter.all false
set_option maxRecDepth 100000

end Go.Proofs.YtebcjijpdhbcdaaGreat

namespace Go.Proofs.YtebcjijpdhbcdaaGreat
open Go.RowKit Go.Cb Go.En
set_option linter.all false
set_option maxRecDepth 100000

end Go.Proofs.YtebcjijpdhbcdaaGreat
