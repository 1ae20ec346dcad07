/-
  Plain laws: the graph of variants accepts them. No program in sight.
-/
import Derived.Test.YtebcjijpdhbcdaaGreatLn
namespace Go.Proofs.YtebcjijpdhbcdaaGreat
open Go.RowKit Go.Cb Go.En
set_option linter.all false

structure Left (st : M4) (x : Var) : Prop where
  a : ∀ s ∈ x.acts, s ∈ st.a.map (·.1)
  s : ∀ s, x.acts.head? = some s → s ∈ st.s.map (·.1)
  f : ∀ s, x.acts.getLast? = some s → s ∈ st.f.map (·.1)
  q : ∀ p ∈ pairsOf x.acts, p ∈ st.q.map (·.1)
theorem mk1_left (st : M4) (x : Var) : Left (mk1 st x) x := by
  refine ⟨fun s hs => addAll_key.2 (.inl hs), fun s hs => ?_, fun s hs => ?_, fun p hp => addAll_key.2 (.inl hp)⟩
  · unfold mk1
    cases hx : x.acts with
    | nil => rw [hx] at hs; cases hs
    | cons a l => rw [hx] at hs; cases hs; exact iadd_key.2 (.inl rfl)
  · unfold mk1
    dsimp only
    rw [hs]
    exact iadd_key.2 (.inl rfl)
theorem mk1_keep {st : M4} {x y : Var} (h : Left st y) : Left (mk1 st x) y := by
  refine ⟨fun s hs => addAll_key.2 (.inr (h.a s hs)), fun s hs => ?_, fun s hs => ?_, fun p hp => addAll_key.2 (.inr (h.q p hp))⟩
  · unfold mk1
    cases hx : x.acts with
    | nil => exact h.s s hs
    | cons a l => exact iadd_key.2 (.inr (h.s s hs))
  · unfold mk1
    dsimp only
    cases hx : x.acts.getLast? with
    | none => exact h.f s hs
    | some z => exact iadd_key.2 (.inr (h.f s hs))
theorem makeM_left {l : List Var} {x : Var} (hx : x ∈ l) : Left (makeM l) x := by
  have keep : ∀ (l : List Var) (st : M4), Left st x → Left (l.foldl mk1 st) x := fun l => by
    induction l with
    | nil => intro st h; exact h
    | cons y l ih => intro st h; exact ih _ (mk1_keep h)
  have key : ∀ (l : List Var) (st : M4), x ∈ l → Left (l.foldl mk1 st) x := fun l => by
    induction l with
    | nil => intro st h; simp at h
    | cons y l ih =>
      intro st h
      rcases List.mem_cons.1 h with rfl | h
      · exact keep l _ (mk1_left st x)
      · exact ih _ h
  exact key l _ hx
def ixW (acts w : List ByteArray) : List Int := w.map fun s => (ixN acts s : Nat)
theorem autG_sym {g : Dfg} {m : Mv} (h : m ∈ (autG g).moves) : 0 ≤ m.sym := by
  rcases List.mem_append.1 h with h1 | h1
  · obtain ⟨c, _, rfl⟩ := List.mem_map.1 h1
    show (0 : Int) ≤ ((_ : Nat) : Int); omega
  · obtain ⟨c, _, rfl⟩ := List.mem_map.1 h1
    show (0 : Int) ≤ ((_ : Nat) : Int); omega
theorem rch_autG {g : Dfg} {l : List Int} {t : Int} (h : Rch (autG g) l t) : t ∈ l := by
  cases h with
  | base h => exact h
  | step _ hm _ hc => have := autG_sym hm; omega
theorem autG_empty {g : Dfg} (hG : GOk g) : accB (autG g) (closL (autG g) (autG g).start) = false := by
  have hA := aok_of (autG_ok hG)
  unfold accB
  rw [List.any_eq_false]
  intro t ht
  rw [closL_mem hA.mi hA.st] at ht
  have h1 := rch_autG ht
  have h2 : t = 0 := by
    have h3 : t ∈ [(0 : Int)] := h1
    simpa using h3
  subst h2
  intro hf
  unfold finB at hf
  obtain ⟨x, hx, he⟩ := List.any_eq_true.1 hf
  obtain ⟨c, _, rfl⟩ := List.mem_map.1 hx
  unfold finE at he
  have := of_decide_eq_true he
  omega
theorem step_in {a : Aut} (hA : AOk a) {S : List Int} (hS : InS a S) {m : Mv} (hm : m ∈ a.moves) (hs : m.src ∈ S) : m.dst ∈ nextL a m.sym S := (next_mem hA.mi).2 (.base ((leads_mem hS).2 ⟨m, hm, hs, rfl, rfl⟩))
theorem acts_has {g : Dfg} {st : M4} {s : ByteArray} (h : SameC g.acts st.a) (hs : s ∈ st.a.map (·.1)) : hasStr (cnames g.acts) s = true := has_mem ((sameC_name h).2 hs)
theorem run_last {g : Dfg} {st : M4} {x : Var} (hG : GOk g) (hg : SameG g st) (hL : Left st x) : ∀ k s, x.acts[k]? = some s → ((ixN (cnames g.acts) s : Nat) : Int) + 1 ∈ (ixW (cnames g.acts) (x.acts.take (k + 1))).foldl (fun S c => nextL (autG g) c S) (closL (autG g) (autG g).start)
  | 0, s, hs => by
    have hA := aok_of (autG_ok hG)
    have h1 : x.acts.take (0 + 1) = [s] := by rw [take_snoc hs]; rfl
    rw [h1]
    have h2 : x.acts.head? = some s := by rw [List.head?_eq_getElem?]; exact hs
    obtain ⟨c, hc, rfl⟩ := List.mem_map.1 ((sameC_name hg.2.1).2 (hL.s s h2))
    have hm : moveS (cnames g.acts) c ∈ (autG g).moves := List.mem_append.2 (.inl (List.mem_map.2 ⟨c, hc, rfl⟩))
    exact step_in hA (closL_in hA.mi hA.st) hm ((closL_mem hA.mi hA.st _).2 (.base (by show (0 : Int) ∈ [(0 : Int)]; simp)))
  | k + 1, s, hs => by
    have hA := aok_of (autG_ok hG)
    obtain ⟨r, hr⟩ := get_some (show k < x.acts.length by have := lt_of_get hs; omega)
    have ih := run_last hG hg hL k r hr
    have hp : (r, s) ∈ pairsOf x.acts := by
      have h1 := pairs_step hr hs
      have h2 : (r, s) ∈ pairsOf (x.acts.take (k + 1 + 1)) := by rw [h1]; simp
      have key : ∀ (l m : List ByteArray) (p : Pr), p ∈ pairsOf l → p ∈ pairsOf (l ++ m) := fun l => by
        induction l with
        | nil => intro m p h; simp [pairsOf] at h
        | cons a l ih =>
          intro m p h
          cases l with
          | nil => simp [pairsOf] at h
          | cons b l =>
            rw [pairsOf] at h
            show p ∈ (a, b) :: pairsOf (b :: l ++ m)
            rcases List.mem_cons.1 h with rfl | h
            · simp
            · exact List.mem_cons_of_mem _ (ih m p h)
      have h3 := key _ (x.acts.drop (k + 1 + 1)) _ h2
      rwa [List.take_append_drop] at h3
    have h4 := hL.q _ hp
    have h5 : ((r, s) : Pr) ∈ (g.follows.map fun f => ((f.src, f.dst) : Pr)) := by
      have h6 := hg.2.2.2.1.map (fun f => ((f.src, f.dst) : Pr))
      rw [List.map_map] at h6
      exact h6.mem_iff.2 h4
    obtain ⟨f, hf, he⟩ := List.mem_map.1 h5
    have e1 : f.src = r := congrArg Prod.fst he
    have e2 : f.dst = s := congrArg Prod.snd he
    have hm : moveF (cnames g.acts) f ∈ (autG g).moves := List.mem_append.2 (.inr (List.mem_map.2 ⟨f, hf, rfl⟩))
    rw [take_snoc hs, show ixW (cnames g.acts) (x.acts.take (k + 1) ++ [s]) = ixW (cnames g.acts) (x.acts.take (k + 1)) ++ [((ixN (cnames g.acts) s : Nat) : Int)] by unfold ixW; rw [List.map_append]; rfl, List.foldl_append]
    show _ ∈ nextL (autG g) _ _
    have hin : InS (autG g) ((ixW (cnames g.acts) (x.acts.take (k + 1))).foldl (fun S c => nextL (autG g) c S) (closL (autG g) (autG g).start)) := by
      have key : ∀ (w S : List Int), InS (autG g) S → InS (autG g) (w.foldl (fun S c => nextL (autG g) c S) S) := fun w => by
        induction w with
        | nil => intro S h; exact h
        | cons c w ih => intro S _; exact ih _ (next_in hA.mi c S)
      exact key _ _ (closL_in hA.mi hA.st)
    have h7 := step_in hA hin hm (by show ((ixN (cnames g.acts) f.src : Nat) : Int) + 1 ∈ _; rw [e1]; exact ih)
    rw [← e2]
    exact h7
theorem accepts_law {g : Dfg} {st : M4} {x : Var} (hG : GOk g) (hg : SameG g st) (hL : Left st x) : accB (autG g) ((ixW (cnames g.acts) x.acts).foldl (fun S c => nextL (autG g) c S) (closL (autG g) (autG g).start)) = decide (0 < x.acts.length) := by
  rcases Nat.eq_zero_or_pos x.acts.length with h0 | h0
  · rw [List.eq_nil_of_length_eq_zero h0]
    exact autG_empty hG
  · obtain ⟨s, hs⟩ := get_some (show x.acts.length - 1 < x.acts.length by omega)
    have h1 := run_last hG hg hL (x.acts.length - 1) s hs
    rw [show x.acts.length - 1 + 1 = x.acts.length by omega, List.take_length] at h1
    have h2 : x.acts.getLast? = some s := by rw [List.getLast?_eq_getElem?]; exact hs
    obtain ⟨c, hc, he⟩ := List.mem_map.1 ((sameC_name hg.2.2.1).2 (hL.f s h2))
    rw [decide_eq_true h0]
    unfold accB
    refine List.any_eq_true.2 ⟨_, h1, ?_⟩
    unfold finB
    refine List.any_eq_true.2 ⟨finE (cnames g.acts) c, List.mem_map.2 ⟨c, hc, rfl⟩, ?_⟩
    unfold finE
    rw [he]
    exact decide_eq_true rfl
theorem pair_has {g : Dfg} {st : M4} {x : Var} (hg : SameG g st) (hL : Left st x) {k : Nat} {r s : ByteArray} (hr : x.acts[k]? = some r) (hs : x.acts[k + 1]? = some s) : (g.follows.any fun f => strEq f.src r && strEq f.dst s) = true := by
  have hp : (r, s) ∈ pairsOf x.acts := by
    have key : ∀ (l : List ByteArray) (k : Nat), l[k]? = some r → l[k + 1]? = some s → (r, s) ∈ pairsOf l := fun l => by
      induction l with
      | nil => intro k h; simp at h
      | cons a l ih =>
        intro k h1 h2
        cases l with
        | nil => simp at h2
        | cons b l =>
          rw [pairsOf]
          cases k with
          | zero => cases h1; cases h2; simp
          | succ k => exact List.mem_cons_of_mem _ (ih k h1 h2)
    exact key _ k hr hs
  have h4 := hL.q _ hp
  have h6 := hg.2.2.2.1.map (fun f => ((f.src, f.dst) : Pr))
  rw [List.map_map] at h6
  obtain ⟨f, hf, he⟩ := List.mem_map.1 (h6.mem_iff.2 h4)
  refine List.any_eq_true.2 ⟨f, hf, ?_⟩
  rw [Bool.and_eq_true, strEq_iff, strEq_iff]
  exact ⟨congrArg Prod.fst he, congrArg Prod.snd he⟩
end Go.Proofs.YtebcjijpdhbcdaaGreat
