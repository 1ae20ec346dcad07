/-
  What sums and thresholds of graphs are: one value for each.
-/
import Derived.Test.YtebcjijpdhbcdaaGreatLn
import Derived.Test.YtebcjijpdhbcdaaGreatMLeN
import Derived.Test.YtebcjijpdhbcdaaGreatLj
namespace Go.Proofs.YtebcjijpdhbcdaaGreat
open Go.RowKit Go.Cb Go.En
set_option linter.all false
set_option maxRecDepth 100000



def SumRes (a b g : Dfg) (e : Int) : Prop := ((dfgOk a && dfgOk b) = false ∧ g = g0 ∧ e = 1) ∨ (dfgOk a = true ∧ dfgOk b = true ∧ 40 < (sumM a b).a.length ∧ g = g0 ∧ e = 5) ∨ (dfgOk a = true ∧ dfgOk b = true ∧ (sumM a b).a.length ≤ 40 ∧ ∃ g', SameG g' (sumM a b) ∧ ((dfgOk g' = false ∧ g = g0 ∧ e = 6) ∨ (dfgOk g' = true ∧ g = g' ∧ e = 0)))
theorem sum_sok {a b : Dfg} (hA : dfgOk a = true) (hB : dfgOk b = true) : SOk (sumM a b) ((2 : Nat) * 4503599627370496) (2 * 1600) := stG_ok (gs := [a, b]) (fun g hg => by
  simp only [List.mem_cons, List.not_mem_nil, or_false] at hg
  rcases hg with rfl | rfl <;> assumption) 2 (Nat.le_refl _)
theorem sum_af {f : Nat} {a b g : Dfg} {e : Int} (h : AF Tryz.prog f [pDfg a, pDfg b] (RSum a b)) (hm : SumRes a b g e) : AF Tryz.prog f [pDfg a, pDfg b] (· = .tup [pDfg g, pInt e]) := by
  have zero : ∀ e : Int, (∀ p, RSum a b p → p = .tup [zeroD, pInt e]) → AF Tryz.prog f [pDfg a, pDfg b] (· = .tup [pDfg g0, pInt e]) := fun e hp => AF.reread (p := .tup [zeroD, pInt e]) (h.mono hp) rfl (rr_zeroDE e)
  rcases hm with ⟨h1, rfl, rfl⟩ | ⟨h1, h2, h3, rfl, rfl⟩ | ⟨h1, h2, h3, g', h4, h5⟩
  · refine zero 1 fun p hp => ?_
    rcases hp with ⟨_, hp⟩ | ⟨g1, g2, _⟩ | ⟨g1, g2, _⟩
    · exact hp
    · rw [g1, g2] at h1; cases h1
    · rw [g1, g2] at h1; cases h1
  · refine zero 5 fun p hp => ?_
    rcases hp with ⟨g1, _⟩ | ⟨_, _, _, hp⟩ | ⟨_, _, g1, _⟩
    · rw [h1, h2] at g1; cases g1
    · exact hp
    · omega
  · rcases h5 with ⟨h5, rfl, rfl⟩ | ⟨h5, rfl, rfl⟩
    · refine zero 6 fun p hp => ?_
      rcases hp with ⟨g1, _⟩ | ⟨_, _, g1, _⟩ | ⟨_, _, _, g2, g3, hp⟩
      · rw [h1, h2] at g1; cases g1
      · omega
      · rw [sameG_unique g3 h4] at hp
        rcases hp with ⟨_, hp⟩ | ⟨hp, _⟩
        · exact hp
        · rw [h5] at hp; cases hp
    · refine h.mono fun p hp => ?_
      rcases hp with ⟨g1, _⟩ | ⟨_, _, g1, _⟩ | ⟨_, _, _, g2, g3, hp⟩
      · rw [h1, h2] at g1; cases g1
      · omega
      · rw [sameG_unique g3 h4] at hp
        rcases hp with ⟨hp, _⟩ | ⟨_, hp⟩
        · rw [h5] at hp; cases hp
        · exact hp
end Go.Proofs.YtebcjijpdhbcdaaGreat
