/-
  Walks: the reference's automata: closures, where a symbol leads, what is final, what is near.
-/
import Derived.Test.YtebcjijpdhbcdaaGreatMLdT
import Derived.Test.YtebcjijpdhbcdaaGreatLi
namespace Go.Proofs.YtebcjijpdhbcdaaGreat
open Go.RowKit Go.Cb Go.En
set_option linter.all false
set_option maxRecDepth 100000

def markL (l : List Int) (i : Nat) : Bool := hasI l (i : Nat)
structure MkI (a : Aut) (l : List Int) (f : Nat → Bool) : Prop where
  base : ∀ s ∈ l, f s.toNat = true
  snd : ∀ i : Nat, i < a.n.toNat → f i = true → Rch a l (i : Nat)
def ClosF (a : Aut) (f : Nat → Bool) : Prop := ∀ m ∈ a.moves, m.sym < 0 → f m.src.toNat = true → f m.dst.toNat = true
theorem MkI.start {a : Aut} {l : List Int} (hl : InS a l) : MkI a l (markL l) := by
  refine ⟨fun s hs => ?_, fun i _ h => .base (hasI_iff.1 h)⟩
  unfold markL
  rw [hasI_iff, show ((s.toNat : Nat) : Int) = s by have := hl s hs; omega]
  exact hs
def setB (f : Nat → Bool) (i : Nat) : Nat → Bool := fun j => if j = i then true else f j
structure PassB (a : Aut) (l : List Int) (f0 f : Nat → Bool) (fl : Bool) (i : Nat) : Prop where
  mki : MkI a l f
  no : fl = false → f = f0 ∧ ∀ j m, j < i → a.moves[j]? = some m → m.sym < 0 → f m.src.toNat = true → f m.dst.toNat = true
  yes : fl = true → cntF a.n.toNat f < cntF a.n.toNat f0
theorem PassB.start {a : Aut} {l : List Int} {f : Nat → Bool} (h : MkI a l f) : PassB a l f f false 0 := ⟨h, fun _ => ⟨rfl, fun j m hj => by omega⟩, fun h => Bool.noConfusion h⟩
theorem PassB.set {a : Aut} {l : List Int} {f0 f : Nat → Bool} {fl : Bool} {i : Nat} {m : Mv} (hA : AOk a) (hl : InS a l) (h : PassB a l f0 f fl i) (hm : a.moves[i]? = some m) (h1 : m.sym < 0) (h2 : f m.src.toNat = true) (h3 : f m.dst.toNat = false) : PassB a l f0 (setB f m.dst.toNat) true (i + 1) := by
  have hmv := hA.mv m (List.mem_of_getElem? hm)
  refine ⟨⟨fun s hs => ?_, fun j hj hf => ?_⟩, fun h => Bool.noConfusion h, fun _ => ?_⟩
  · unfold setB; split
    · rfl
    · exact h.mki.base s hs
  · unfold setB at hf
    split at hf
    · rename_i e
      have h4 := h.mki.snd m.src.toNat (by omega) h2
      have h5 := Rch.step h4 (List.mem_of_getElem? hm) (by omega) (by omega)
      rw [e, show ((m.dst.toNat : Nat) : Int) = m.dst by omega]; exact h5
    · exact h.mki.snd j hj hf
  · have h4 := cntF_set h3 (n := a.n.toNat) (by omega)
    have h5 : cntF a.n.toNat (setB f m.dst.toNat) + 1 = cntF a.n.toNat f := h4
    cases hfl : fl
    · have := (h.no hfl).1
      rw [this] at h5 ⊢; omega
    · have := h.yes hfl; omega
theorem PassB.skip {a : Aut} {l : List Int} {f0 f : Nat → Bool} {fl : Bool} {i : Nat} {m : Mv} (h : PassB a l f0 f fl i) (hm : a.moves[i]? = some m) (h1 : m.sym < 0 → f m.src.toNat = true → f m.dst.toNat = true) : PassB a l f0 f fl (i + 1) :=
  ⟨h.mki, fun hf => ⟨(h.no hf).1, fun j x hj hx => by
    by_cases e : j = i
    · subst e; rw [hm] at hx; cases hx; exact h1
    · exact (h.no hf).2 j x (by omega) hx⟩, h.yes⟩
theorem PassB.clos {a : Aut} {l : List Int} {f0 f : Nat → Bool} {i : Nat} (h : PassB a l f0 f false i) (hi : a.moves.length ≤ i) : ClosF a f := fun m hm => by
  obtain ⟨j, hj⟩ := List.getElem?_of_mem hm
  exact (h.no rfl).2 j m (by have := lt_of_get hj; omega) hj
theorem PassB.less {a : Aut} {l : List Int} {f0 f : Nat → Bool} {fl : Bool} {i : Nat} (h : PassB a l f0 f fl i) : cntF a.n.toNat f + (if fl then 1 else 0) < cntF a.n.toNat f0 + (if true then 1 else 0) := by
  cases hf : fl
  · have h1 := (h.no hf).1
    rw [h1]; simp
  · have h1 := h.yes hf
    simp; omega
end Go.Proofs.YtebcjijpdhbcdaaGreat
