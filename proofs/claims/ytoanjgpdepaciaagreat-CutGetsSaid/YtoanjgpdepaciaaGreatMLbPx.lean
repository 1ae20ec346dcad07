/-
  The engine: a call that hands back one of a family of pairs. No program in sight.
-/
import Derived.Test.YtoanjgpdepaciaaGreatEngb
namespace Go.En
open Go.RowKit Go.Cb
theorem cPx {P : Program} {c : Ctx} {ops : Array Oper} {Q : Exit → Act → World → Prop} {rest : List Oper} {sL hP : List (Nat × Ent)} {o : Oper} {ι : Type} {p1 p2 : ι → PV} (d : Nat) (hC : CallR P c (⟨sL, hP⟩ : St) o (fun p => ∃ i, p = .tup [p1 i, p2 i])) (k : ∀ i v1 v2, vOf (p1 i) v1 → vOf (p2 i) v2 → aL P c ops Q rest ⟨put d (.tuple [v1, v2].toArray, .tup [p1 i, p2 i]) sL, hP⟩) (hsh : ∀ i, shD (.tup [p1 i, p2 i]) = true) (hw : wants ops sL o = some true := by exact rfl) (hd : o.dst = some d := by exact rfl) (hn : d < c.nt := by exact Nat.le_of_ble_eq_true rfl) : aL P c ops Q (o :: rest) (⟨sL, hP⟩ : St) :=
  call_run hw hC fun a w F w' v p' Fr H hR hx hT hlo hdw => by
    obtain ⟨i, rfl⟩ := hR
    have hS := hT.shD (hsh i)
    rw [hd]
    have hS' : Shr (mof c hP F) w' v (.tup [p1 i, p2 i]) := hS.anti fun b _ h => .inl h
    cases hS with
    | tup vs ps hl h =>
      match vs, hl, h, hS' with
      | [v1, v2], _, h, hS' => exact k i v1 v2 (h 0 v1 _ rfl rfl).vOf (h 1 v2 _ rfl rfl).vOf _ _ ⟨F, put_up H hx hn hS'⟩
end Go.En
