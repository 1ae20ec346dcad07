/-
  Walks: the relation of a graph (package cut): squares, of, at, reach.
  Walks: reach, loops, fits, begin (package cut).
  Walks: the reference's valid graphs (layer 17) and views of graphs (layer 36).
-/
import Derived.Test.YtebcjijpdhbcdaaGreatLa
import Derived.Test.YtebcjijpdhbcdaaGreatLp
import Derived.Test.YtebcjijpdhbcdaaGreatEngb
namespace Go.Proofs.YtebcjijpdhbcdaaGreat
open Go.RowKit Go.Cb Go.En
set_option linter.all false
set_option maxRecDepth 100000



def ixN (l : List ByteArray) (s : ByteArray) : Nat := (idx (fun x => strEq x s) l).toNat
theorem ixN_of {l : List ByteArray} {s : ByteArray} (h : hasStr l s = true) : idx (fun x => strEq x s) l = (ixN l s : Int) ∧ ixN l s < l.length := by
  have h1 := idx_bd (fun x => strEq x s) l
  have h2 : 0 ≤ idx (fun x => strEq x s) l := by
    have := idx_any (fun x => strEq x s) l
    rw [show l.any (fun x => strEq x s) = true from h] at this
    exact of_decide_eq_true this
  unfold ixN
  omega
theorem dfg_parts {g : Dfg} (h : dfgOk g = true) : (cnames g.acts).length ≤ 40 ∧ (∀ c ∈ g.starts, hasStr (cnames g.acts) c.name = true) ∧ (∀ c ∈ g.ends, hasStr (cnames g.acts) c.name = true) ∧ (∀ f ∈ g.follows, hasStr (cnames g.acts) f.src = true ∧ hasStr (cnames g.acts) f.dst = true) := by
  unfold dfgOk alphaB ascB at h
  simp only [Bool.and_eq_true, List.all_eq_true, decide_eq_true_eq] at h
  obtain ⟨⟨⟨⟨⟨⟨⟨h1, h2⟩, h3⟩, h4⟩, h5⟩, h6⟩, h7⟩, h8⟩ := h
  refine ⟨h1.1.1, fun c hc => h2.2 _ (List.mem_map.2 ⟨c, hc, rfl⟩), fun c hc => h3.2 _ (List.mem_map.2 ⟨c, hc, rfl⟩), fun f hf => ?_⟩
  have := h7 f hf
  unfold flwOk at this
  simp only [Bool.and_eq_true] at this
  exact ⟨this.1.2, this.2⟩
end Go.Proofs.YtebcjijpdhbcdaaGreat

namespace Go.Proofs.YtebcjijpdhbcdaaGreat
open Go.RowKit Go.Cb Go.En
set_option linter.all false
set_option maxRecDepth 100000



end Go.Proofs.YtebcjijpdhbcdaaGreat

namespace Go.Proofs.YtebcjijpdhbcdaaGreat
open Go.RowKit Go.Cb Go.En
set_option linter.all false
set_option maxRecDepth 100000

theorem chain_map {α β : Type} {r : β → β → Bool} {f : α → β} : ∀ l : List α, chainB r (l.map f) = chainB (fun a b => r (f a) (f b)) l
  | [] => rfl
  | [a] => rfl
  | a :: b :: l => by rw [List.map_cons, List.map_cons, chainB, chainB, ← List.map_cons, chain_map (b :: l)]
theorem hasStr_self {l : List ByteArray} {s : ByteArray} (h : s ∈ l) : hasStr l s = true := by unfold hasStr; rw [List.any_eq_true]; exact ⟨s, h, strEq_iff.2 rfl⟩
end Go.Proofs.YtebcjijpdhbcdaaGreat
