/-
  The engine: remainders, bits. No program in sight.
-/
import Derived.Test.YtebcjijpdhbcdaaGreatMEoE
namespace Go.En
open Go.RowKit Go.Cb
set_option linter.all false
section
variable {P : Program} {st : St} {o : Oper} {x y : Operand} {q q' : PV} {t t' : TypeId}
theorem q_rem {kd : IntKind} {a b : Int} (ho : o.op = .binOp .rem t x y t' := by exact rfl) (hx : ev st.slots x = some (.int kd a, q) := by exact rfl) (hy : ev st.slots y = some (.int kd b, q') := by exact rfl) (hb : b ≠ 0 := by first | decide | omega) : YE P st o (· = .int kd (a.tmod b)) (.val (.int kd (a.tmod b))) :=
  y2 hx hy fun ρ w h3 h4 => by
    simp [execOp, ho, h3, h4, eqGuard, binOp, Op.intDiv, hb]
end
end Go.En
