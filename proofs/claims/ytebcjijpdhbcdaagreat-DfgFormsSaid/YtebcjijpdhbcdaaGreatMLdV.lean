/-
  Walks: the reference's automata: distances, the words up to a length.
-/
import Derived.Test.YtebcjijpdhbcdaaGreatMLdU
import Derived.Test.YtebcjijpdhbcdaaGreatMLdS
namespace Go.Proofs.YtebcjijpdhbcdaaGreat
open Go.RowKit Go.Cb Go.En
set_option linter.all false
set_option maxRecDepth 100000

def FinJ (a : Aut) (k : Nat) (L : List Int) : Prop := L.length = a.n.toNat ∧ ∀ s, s < k → L[s]? = some (if finB a (s : Nat) then 0 else -1)
theorem FinJ.step {a : Aut} {k : Nat} {L : List Int} {d : Int} (h : FinJ a k L) (hk : k < a.n.toNat) (hd : d = if finB a (k : Nat) then 0 else -1) : FinJ a (k + 1) (L.set k d) := by
  refine ⟨by rw [List.length_set]; exact h.1, fun s hs => ?_⟩
  by_cases e : k = s
  · subst e
    rw [List.getElem?_set_self (by rw [h.1]; exact hk), hd]
  · rw [List.getElem?_set_ne e]; exact h.2 s (by omega)
theorem FinJ.done {a : Aut} {k : Nat} {L : List Int} (h : FinJ a k L) (hk : a.n.toNat ≤ k) : L = farAt a 0 := by
  apply List.ext_getElem?
  intro s
  rcases Nat.lt_or_ge s a.n.toNat with hs | hs
  · rw [h.2 s (by omega), show (farAt a 0)[s]? = _ from farInit_at hs]
  · rw [List.getElem?_eq_none (by rw [h.1]; exact hs), List.getElem?_eq_none (by rw [(farAt_ok a 0).len]; exact hs)]
end Go.Proofs.YtebcjijpdhbcdaaGreat
