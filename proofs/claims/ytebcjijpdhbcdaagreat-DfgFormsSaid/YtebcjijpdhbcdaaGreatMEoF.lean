/-
  The engine: a slot's value, read otherwise. No program in sight.
-/
import Derived.Test.YtebcjijpdhbcdaaGreatEngc
namespace Go.En
open Go.RowKit Go.Cb
set_option linter.all false
theorem rslot {sL hP : List (Nat × Ent)} {t : Nat} {v : Value} {p p' : PV} (hl : lk sL t = some (v, p)) (hr : Rr p p') : EntE (⟨sL, hP⟩ : St) (fun _ : Unit => ⟨put t (v, p') sL, hP⟩) := fun c a w ⟨F, H⟩ => by
  refine ⟨(), F, H.toHeapF, fun s u r hs => ?_, H.size, H.df⟩
  rcases lk_put hs with ⟨rfl, e1⟩ | ⟨_, hs'⟩
  · cases e1
    exact ⟨(H.sl t _ _ hl).1, hr _ _ _ (H.sl t _ _ hl).2⟩
  · exact H.sl s u r hs'
end Go.En
