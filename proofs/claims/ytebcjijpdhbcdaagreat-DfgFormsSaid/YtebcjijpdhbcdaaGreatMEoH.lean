/-
  The engine: arrays of two numbers are compared. No program in sight.
-/
import Derived.DeepKeys3
import Derived.Test.YtebcjijpdhbcdaaGreatMEoG
namespace Go.En
open Go.RowKit Go.Cb
set_option linter.all false
section
variable {P : Program} {st : St} {o : Oper}
theorem eqA2_run {P : Program} {t e : TypeId} {a b a' b' : Int} (hu : P.underlying t = some (.array 2 e)) (hi : (P.info? e).isSome = true) (hc : P.cellsOf e = 1) (he : P.underlying e = some (.int .i64)) (w : World) : (Op.equalIn 10000 t (.agg [Value.int .i64 a, .int .i64 b].toArray) (.agg [Value.int .i64 a', .int .i64 b'].toArray)).run P w = .ok (a == a' && b == b') w := by
  obtain ⟨i, hi⟩ := Option.isSome_iff_exists.1 hi
  rw [run_equalIn_array w 9999 _ _ hu hi, hc, show List.range 2 = [0, 1] from rfl]
  simp [Op.eqItems, part, isAgg, sizeOf, typeInfo, hi, he, run_underlying he, run_equalIn_int w 9998 e .i64 .i64 a a' he, run_equalIn_int w 9998 e .i64 .i64 b b' he]
  by_cases h1 : a = a' <;> by_cases h2 : b = b' <;> simp [h1, h2]
theorem q_neA2 {t e r : TypeId} {x y : Operand} {v v' : Value} {a b a' b' : Int} (hu : P.underlying t = some (.array 2 e)) (hi : (P.info? e).isSome = true) (hc : P.cellsOf e = 1) (he : P.underlying e = some (.int .i64)) (hg : P.eqGuardType P.depth t = false)
    (ho : o.op = .binOp .neq t x y r := by exact rfl) (hx : ev st.slots x = some (v, .agg ([Value.int .i64 a, .int .i64 b].map PV.val)) := by exact rfl) (hy : ev st.slots y = some (v', .agg ([Value.int .i64 a', .int .i64 b'].map PV.val)) := by exact rfl) : YE P st o (· = .bool (!(a == a' && b == b'))) (.val (.bool (!(a == a' && b == b')))) :=
  .exact fun M F w' w H => ⟨.val _, by
    obtain ⟨h1, h2⟩ := H.ev hx
    obtain ⟨h3, h4⟩ := H.ev hy
    have e1 := agg_plain h2
    have e2 := agg_plain h4
    subst e1 e2
    simp [execOp, ho, h1, h3, run_eqGuard_agg w .neq t x y _ _ hg, run_neq_struct, eqA2_run hu hi hc he w]⟩
theorem q_eqlT {x y : Operand} {q q' : PV} {t t' : TypeId} {k : IntKind} {a : Int} (ho : o.op = .binOp .eql t x y t' := by exact rfl) (hx : ev st.slots x = some (.int k a, q) := by exact rfl) (hy : ev st.slots y = some (.int k a, q') := by exact rfl) : YE P st o (· = .bool true) (.val (.bool true)) := by
  have h := q_eql (P := P) ho hx hy
  rwa [decide_eq_true rfl] at h
end
end Go.En
