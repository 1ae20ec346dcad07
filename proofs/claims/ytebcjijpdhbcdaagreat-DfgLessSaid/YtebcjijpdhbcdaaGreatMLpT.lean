/-
  Plain laws: thresholds of graphs. No program in sight.
-/
import Derived.Test.YtebcjijpdhbcdaaGreatMLpS
import Derived.Test.YtebcjijpdhbcdaaGreatLj
namespace Go.Proofs.YtebcjijpdhbcdaaGreat
open Go.RowKit Go.Cb Go.En
set_option linter.all false

theorem chain_filter {α : Type} {r : α → α → Bool} {l : List α} (p : α → Bool) (hi : ∀ a ∈ l, r a a = false) (ht : ∀ a ∈ l, ∀ b ∈ l, ∀ c ∈ l, r a b = true → r b c = true → r a c = true) (h : chainB r l = true) : chainB r (l.filter p) = true := by
  have h1 := (nodup_of_chain h hi ht).filter p
  refine (chainB_iff r _).2 fun i x y hx hy => ?_
  have hl := lt_of_get hy
  have h2 := List.pairwise_iff_getElem.1 h1 i (i + 1) (by omega) hl (by omega)
  rw [List.getElem?_eq_getElem (by omega)] at hx
  rw [List.getElem?_eq_getElem hl] at hy
  injection hx with hx
  injection hy with hy
  rw [← hx, ← hy]; exact h2
theorem cnames_filter {l : List Cnt} {p : Cnt → Bool} (h : chainB strLt (cnames l) = true) : chainB strLt (cnames (l.filter p)) = true := by
  unfold cnames at h ⊢
  rw [chain_map] at h ⊢
  exact chain_filter p (fun a _ => strLt_irrefl _) (fun a _ b _ c _ h1 h2 => strLt_trans h1 h2) h
theorem all_filter {α : Type} {p q : α → Bool} {l : List α} (h : l.all q = true) : (l.filter p).all q = true := by
  rw [List.all_eq_true] at h ⊢
  exact fun x hx => h x (List.mem_filter.1 hx).1
theorem asc_filter {l : List Cnt} {all : List ByteArray} {p : Cnt → Bool} (h : ascB (cnames l) all = true) : ascB (cnames (l.filter p)) all = true := by
  unfold ascB at h ⊢
  rw [Bool.and_eq_true] at h ⊢
  refine ⟨cnames_filter h.1, ?_⟩
  have h2 := h.2
  rw [List.all_eq_true] at h2 ⊢
  intro s hs
  obtain ⟨c, hc, rfl⟩ := List.mem_map.1 hs
  exact h2 _ (List.mem_map.2 ⟨c, (List.mem_filter.1 hc).1, rfl⟩)
theorem thr_ok {g : Dfg} (n : Int) (h : dfgOk g = true) : dfgOk (thrG n g) = true := by
  unfold dfgOk at h ⊢
  simp only [Bool.and_eq_true] at h ⊢
  obtain ⟨⟨⟨⟨⟨⟨⟨h1, h2⟩, h3⟩, h4⟩, h5⟩, h6⟩, h7⟩, h8⟩ := h
  exact ⟨⟨⟨⟨⟨⟨⟨h1, asc_filter h2⟩, asc_filter h3⟩, h4⟩, all_filter h5⟩, all_filter h6⟩, all_filter h7⟩, chain_filter _ (fun a _ => decide_eq_false (flwCmp_irrefl a)) (fun a _ b _ c _ g1 g2 => decide_eq_true (flwCmp_trans (of_decide_eq_true g1) (of_decide_eq_true g2))) h8⟩
theorem counted_pos {n : Int} (h : countedB n = true) : 1 ≤ n := by
  unfold countedB at h
  simp only [Bool.and_eq_true, decide_eq_true_eq] at h
  exact h.1
theorem thr_one {g : Dfg} (h : dfgOk g = true) : thrG 1 g = g := by
  unfold dfgOk at h
  simp only [Bool.and_eq_true, List.all_eq_true] at h
  obtain ⟨⟨⟨⟨⟨⟨⟨h1, h2⟩, h3⟩, h4⟩, h5⟩, h6⟩, h7⟩, h8⟩ := h
  have e1 : (g.starts.filter fun s => !decide (s.n < 1)) = g.starts := List.filter_eq_self.2 fun c hc => by
    have := counted_pos (h5 c hc)
    simp only [Bool.not_eq_true', decide_eq_false_iff_not]; omega
  have e2 : (g.ends.filter fun s => !decide (s.n < 1)) = g.ends := List.filter_eq_self.2 fun c hc => by
    have := counted_pos (h6 c hc)
    simp only [Bool.not_eq_true', decide_eq_false_iff_not]; omega
  have e3 : (g.follows.filter fun s => !decide (s.n < 1)) = g.follows := List.filter_eq_self.2 fun c hc => by
    have h9 := h7 c hc
    unfold flwOk at h9
    simp only [Bool.and_eq_true] at h9
    have := counted_pos h9.1.1
    simp only [Bool.not_eq_true', decide_eq_false_iff_not]; omega
  unfold thrG
  rw [e1, e2, e3]
theorem filter_lt {α : Type} {f : α → Int} {n m : Int} (h : n ≤ m) (l : List α) : ((l.filter fun s => !decide (f s < n)).filter fun s => !decide (f s < m)) = l.filter fun s => !decide (f s < m) := by
  rw [List.filter_filter]
  refine List.filter_congr fun x _ => ?_
  by_cases h1 : f x < m
  · rw [decide_eq_true h1]; rfl
  · rw [decide_eq_false h1, decide_eq_false (by omega)]; rfl
theorem thr_thr {g : Dfg} {n m : Int} (h : n ≤ m) : thrG m (thrG n g) = thrG m g := by
  unfold thrG
  dsimp only
  rw [filter_lt (f := fun s : Cnt => s.n) h, filter_lt (f := fun s : Cnt => s.n) h, filter_lt (f := fun s : Flw => s.n) h]
theorem thr_le {g : Dfg} {n m : Int} (h : n ≤ m) : ALe (autG (thrG m g)) (autG (thrG n g)) := by
  rw [← thr_thr (g := g) h]
  refine ⟨rfl, rfl, rfl, fun x hx => ?_, fun s hs => ?_⟩
  · rcases List.mem_append.1 hx with h1 | h1
    · obtain ⟨c, hc, rfl⟩ := List.mem_map.1 h1
      exact List.mem_append.2 (.inl (List.mem_map.2 ⟨c, (List.mem_filter.1 hc).1, rfl⟩))
    · obtain ⟨c, hc, rfl⟩ := List.mem_map.1 h1
      exact List.mem_append.2 (.inr (List.mem_map.2 ⟨c, (List.mem_filter.1 hc).1, rfl⟩))
  · unfold finB at hs ⊢
    obtain ⟨t, ht, he⟩ := List.any_eq_true.1 hs
    obtain ⟨c, hc, rfl⟩ := List.mem_map.1 ht
    exact List.any_eq_true.2 ⟨_, List.mem_map.2 ⟨c, (List.mem_filter.1 hc).1, rfl⟩, he⟩
end Go.Proofs.YtebcjijpdhbcdaaGreat
