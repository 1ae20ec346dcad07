/-
  The engine: remainders, bits. No program in sight.
-/
import Derived.Test.YtebcjijpdhbcdaaGreatMEoE
namespace Go.En
open Go.RowKit Go.Cb
set_option linter.all false
section
variable {P : Program} {st : St} {o : Oper} {x y : Operand} {q q' : PV} {t t' : TypeId}
theorem q_or {a b c : Int} (hc : IntKind.wrap .i64 ((BitVec.ofInt 64 a ||| BitVec.ofInt 64 b).toNat : Nat) = c) (ho : o.op = .binOp .or t x y t' := by exact rfl) (hx : ev st.slots x = some (.int .i64 a, q) := by exact rfl) (hy : ev st.slots y = some (.int .i64 b, q') := by exact rfl) : YE P st o (· = .int .i64 c) (.val (.int .i64 c)) :=
  y2 hx hy fun ρ w h3 h4 => by
    subst hc
    simp [execOp, ho, h3, h4, eqGuard, binOp, Op.intBits]
    rfl
end
end Go.En
