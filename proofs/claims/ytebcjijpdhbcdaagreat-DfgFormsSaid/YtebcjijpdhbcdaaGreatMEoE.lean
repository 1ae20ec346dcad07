/-
  The engine: fields of struct values, elements of arrays that are shared. No program in sight.
-/
import Derived.Test.YtebcjijpdhbcdaaGreatEngc
namespace Go.En
open Go.RowKit Go.Cb
set_option linter.all false
section
variable {P : Program} {st : St} {o : Oper}
def FldV (P : Program) (s f fo : Nat) : Bool := match P.underlying s with
  | some (.struct fs) => match fs[f]? with
    | some fd => Nat.beq fd.offset fo && NoAgg P fd.type
    | none => false
  | _ => false
theorem q_fieldv {s f fo : Nat} {x : Operand} {v : Value} {ps : List PV} {p : PV} (hT : FldV P s f fo = true) (ho : o.op = .field s x f := by exact rfl) (hx : ev st.slots x = some (v, .agg ps) := by exact rfl) (hp : ps[fo]? = some p := by exact rfl) : YE P st o (fun _ => True) p := fun M F a w H => by
  obtain ⟨hv, hs⟩ := H.ev hx
  unfold FldV at hT
  split at hT
  · rename_i fs hfs
    split at hT
    · rename_i fd hfd
      rw [Bool.and_eq_true] at hT
      obtain ⟨h1, h2⟩ := hT
      have e1 := Nat.eq_of_beq_eq_true h1
      subst e1
      cases hs with
      | agg vs ps hvl hTT =>
        obtain ⟨u, hu⟩ := get_of_len hp hvl.symm
        refine ⟨u, trivial, hTT _ u p hu hp, fun N W _ _ _ => ?_⟩
        simp [execOp, ho, hv, Instr.field, run_underlying hfs, hfd, asAgg, part, NoAgg.run h2, hu]
    · cases hT
  · cases hT
theorem q_idxas {t len j i : Nat} {x y : Operand} {v : Value} {kd : IntKind} {q : PV} {cs : List PV} (hT : ArrT P t len = true) (ho : o.op = .indexAddr t x y := by exact rfl) (hx : ev st.slots x = some (v, .sptr j cs) := by exact rfl) (hy : ev st.slots y = some (.int kd (i : Int), q) := by exact rfl) (hi : i < len := by first | omega | exact Nat.le_of_ble_eq_true rfl) : YE P st o (· = padd v i) (.sptr (j + i) cs) :=
  .exact fun M F a w H => by
    obtain ⟨hv, hs⟩ := H.ev hx
    have hyv := (H.ev hy).1
    obtain ⟨e, inf, hu, hinf, hs1⟩ := ArrT.run hT
    cases hs with
    | sptr b off j cs vs hcell hT' =>
      refine ⟨?_, ?_⟩
      · have := Shr.sptr (M := M) (w := w) b off (j + i) cs vs hcell hT'
        rw [← Nat.add_assoc] at this
        exact this
      · simp [execOp, ho, hv, hyv, Instr.indexAt, asIntOf, run_underlying hu, Instr.sureAddr, sizeOf, typeInfo, hinf, hs1, hi, add_none, padd]
end
end Go.En
