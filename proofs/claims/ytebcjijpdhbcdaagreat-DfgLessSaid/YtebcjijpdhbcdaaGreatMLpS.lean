/-
  Plain laws: an automaton with fewer moves and ends has fewer words. No program in sight.
-/
import Derived.Test.YtebcjijpdhbcdaaGreatLi
namespace Go.Proofs.YtebcjijpdhbcdaaGreat
open Go.RowKit Go.Cb Go.En
set_option linter.all false

inductive Pth (a : Aut) : Int → Int → Prop
  | fin {s : Int} (h : finB a s = true) : Pth a s 0
  | step {m : Mv} {d : Int} (hm : m ∈ a.moves) (h : Pth a m.dst d) : Pth a m.src (stepD m d)
def FarPth (a : Aut) (far : List Int) : Prop := ∀ (s : Nat) (d : Int), far[s]? = some d → 0 ≤ d → Pth a (s : Nat) d
theorem relax_pth {a : Aut} {far : List Int} {m : Mv} (h : FarPth a far) (hm : m ∈ a.moves) (h0 : 0 ≤ m.src ∧ 0 ≤ m.dst) : FarPth a (relax far m) := by
  unfold relax
  split
  · rename_i d e hd he
    split
    · rename_i h1
      intro s x hx hx0
      by_cases e1 : m.src.toNat = s
      · subst e1
        rw [List.getElem?_set_self (lt_of_get he)] at hx
        cases hx
        have h2 := h _ d hd h1.1
        rw [show ((m.dst.toNat : Nat) : Int) = m.dst by omega] at h2
        have h3 := Pth.step hm h2
        rw [show ((m.src.toNat : Nat) : Int) = m.src by omega]; exact h3
      · rw [List.getElem?_set_ne e1] at hx
        exact h s x hx hx0
    · exact h
  · exact h
theorem passF_pth {a : Aut} (hA : AOk a) : ∀ (ms : List Mv) {far : List Int}, (∀ m ∈ ms, m ∈ a.moves) → FarPth a far → FarPth a (passF ms far)
  | [], _, _, h => h
  | m :: ms, _, hm, h => passF_pth hA ms (fun x hx => hm x (List.mem_cons_of_mem _ hx)) (relax_pth h (hm m (List.mem_cons_self ..)) (by have := hA.mv m (hm m (List.mem_cons_self ..)); omega))
theorem farAt_pth {a : Aut} (hA : AOk a) : ∀ k, FarPth a (farAt a k)
  | 0 => fun s d hd h0 => by
    have hs : s < a.n.toNat := by
      have := lt_of_get hd
      rwa [show (farAt a 0).length = a.n.toNat from (farInit_ok a).len] at this
    rw [show (farAt a 0)[s]? = _ from farInit_at hs] at hd
    cases hf : finB a (s : Nat) with
    | true => rw [hf, if_pos rfl] at hd; cases hd; exact .fin hf
    | false => rw [hf, if_neg (by decide)] at hd; cases hd; omega
  | k + 1 => passF_pth hA a.moves (fun _ h => h) (farAt_pth hA k)
theorem farL_pth {a : Aut} (hA : AOk a) : FarPth a (farL a) := farAt_pth hA _
theorem pth_far {a : Aut} (hA : AOk a) {s d : Int} (h : Pth a s d) (hs : 0 ≤ s ∧ s < a.n) : ∃ e, (farL a)[s.toNat]? = some e ∧ 0 ≤ e ∧ e ≤ d := by
  induction h with
  | fin hf => exact ⟨0, finB_far hs hf, Int.le_refl _, Int.le_refl _⟩
  | @step m d hm h ih =>
    have hmv := hA.mv m hm
    obtain ⟨e, he, h0, h1⟩ := ih (by omega)
    obtain ⟨e', he'⟩ := far_some hs
    have := farL_tri hm he he' h0
    refine ⟨e', he', this.1, ?_⟩
    have h2 : stepD m e ≤ stepD m d := by unfold stepD; split <;> omega
    omega
structure ALe (b a : Aut) : Prop where
  n : b.n = a.n
  syms : b.syms = a.syms
  start : b.start = a.start
  mv : ∀ m ∈ b.moves, m ∈ a.moves
  fi : ∀ s, finB b s = true → finB a s = true
theorem ALe.pth {b a : Aut} (h : ALe b a) {s d : Int} (hp : Pth b s d) : Pth a s d := by
  induction hp with
  | fin hf => exact .fin (h.fi _ hf)
  | step hm _ ih => exact .step (h.mv _ hm) ih
theorem ALe.rch {b a : Aut} (h : ALe b a) {l l' : List Int} (hl : ∀ x ∈ l, x ∈ l') {t : Int} (hr : Rch b l t) : Rch a l' t := by
  induction hr with
  | base h1 => exact .base (hl _ h1)
  | step _ hm hs hc ih => exact .step ih (h.mv _ hm) hs hc
inductive Emb : List Pf → List Pf → Prop
  | nil : Emb [] []
  | skip {l m : List Pf} {q : Pf} (h : Emb l m) : Emb l (q :: m)
  | cons {l m : List Pf} {p q : Pf} (h1 : p.1 = q.1) (h2 : ∀ x ∈ p.2, x ∈ q.2) (h : Emb l m) : Emb (p :: l) (q :: m)
theorem Emb.none : ∀ m : List Pf, Emb [] m
  | [] => .nil
  | _ :: m => .skip (Emb.none m)
theorem Emb.app {l m l' m' : List Pf} (h : Emb l m) (h' : Emb l' m') : Emb (l ++ l') (m ++ m') := by
  induction h with
  | nil => exact h'
  | skip _ ih => exact .skip ih
  | cons h1 h2 _ ih => exact .cons h1 h2 ih
theorem Emb.none_app : ∀ (m : List Pf) {l m' : List Pf}, Emb l m' → Emb l (m ++ m')
  | [], _, _, h => h
  | _ :: m, _, _, h => .skip (Emb.none_app m h)
theorem Emb.flat {l m : List Pf} {f g : Pf → List Pf} (h : Emb l m) (P : Pf → Prop) (Q : Pf → Prop) (hP : ∀ p ∈ l, P p) (hQ : ∀ q ∈ m, Q q) (hf : ∀ p q, P p → Q q → p.1 = q.1 → (∀ x ∈ p.2, x ∈ q.2) → Emb (f p) (g q)) : Emb (l.flatMap f) (m.flatMap g) := by
  induction h with
  | nil => exact .nil
  | skip _ ih =>
    rw [List.flatMap_cons]
    exact Emb.none_app _ (ih hP fun q hq => hQ q (List.mem_cons_of_mem _ hq))
  | cons h1 h2 _ ih =>
    rw [List.flatMap_cons, List.flatMap_cons]
    exact (hf _ _ (hP _ (List.mem_cons_self ..)) (hQ _ (List.mem_cons_self ..)) h1 h2).app (ih (fun p hp => hP p (List.mem_cons_of_mem _ hp)) fun q hq => hQ q (List.mem_cons_of_mem _ hq))
theorem Emb.flatN {f g : Nat → List Pf} : ∀ {l : List Nat}, (∀ c ∈ l, Emb (f c) (g c)) → Emb (l.flatMap f) (l.flatMap g)
  | [], _ => .nil
  | c :: l, h => by
    rw [List.flatMap_cons, List.flatMap_cons]
    exact (h c (List.mem_cons_self ..)).app (Emb.flatN fun d hd => h d (List.mem_cons_of_mem _ hd))
theorem Emb.len {l m : List Pf} (h : Emb l m) : l.length ≤ m.length := by
  induction h with
  | nil => exact Nat.le_refl _
  | skip _ ih => rw [List.length_cons]; omega
  | cons _ _ _ ih => rw [List.length_cons, List.length_cons]; omega
theorem least_iff {a : Aut} {S : List Int} (hS : InS a S) (n : Int) : (0 ≤ leastL (farL a) S ∧ leastL (farL a) S ≤ n) ↔ ∃ s ∈ S, ∃ d, (farL a)[s.toNat]? = some d ∧ 0 ≤ d ∧ d ≤ n := by
  have h := least_near hS n
  constructor
  · intro h1
    have h2 : ¬ (nearL S (farL a) n).length = 0 := fun h3 => h.1 h3 h1
    obtain ⟨s, hs⟩ := List.exists_mem_of_length_pos (Nat.pos_of_ne_zero h2)
    obtain ⟨h3, h4⟩ := (near_mem hS).1 hs
    exact ⟨s, h3, h4⟩
  · rintro ⟨s, h1, h2⟩
    have h3 : s ∈ nearL S (farL a) n := (near_mem hS).2 ⟨h1, h2⟩
    rcases Classical.em (0 ≤ leastL (farL a) S ∧ leastL (farL a) S ≤ n) with h4 | h4
    · exact h4
    · have h5 := h.2 h4
      rw [List.eq_nil_of_length_eq_zero h5] at h3
      simp at h3
theorem ALe.least {b a : Aut} (h : ALe b a) (hB : AOk b) (hA : AOk a) {S T : List Int} (hS : InS b S) (hT : InS a T) (hST : ∀ x ∈ S, x ∈ T) {n : Int} (hl : 0 ≤ leastL (farL b) S ∧ leastL (farL b) S ≤ n) : 0 ≤ leastL (farL a) T ∧ leastL (farL a) T ≤ n := by
  obtain ⟨s, hs, d, hd, h0, h1⟩ := (least_iff hS n).1 hl
  have hsi := hS s hs
  have hp := h.pth (farL_pth hB _ d hd h0)
  rw [show ((s.toNat : Nat) : Int) = s by omega] at hp
  obtain ⟨e, he, h2, h3⟩ := pth_far hA hp (hT s (hST s hs))
  exact (least_iff hT n).2 ⟨s, hST s hs, e, he, h2, by omega⟩
theorem ALe.next {b a : Aut} (h : ALe b a) (hB : AOk b) (hA : AOk a) {S T : List Int} (hS : InS b S) (hT : InS a T) (hST : ∀ x ∈ S, x ∈ T) (c : Int) : ∀ x ∈ nextL b c S, x ∈ nextL a c T := fun x hx => by
  rw [next_mem hB.mi] at hx
  rw [next_mem hA.mi]
  refine h.rch (fun y hy => ?_) hx
  obtain ⟨m, h1, h2, h3, h4⟩ := (leads_mem hS).1 hy
  exact (leads_mem hT).2 ⟨m, h.mv m h1, hST _ h2, h3, h4⟩
theorem ALe.lv {b a : Aut} (h : ALe b a) (hB : AOk b) (hA : AOk a) (n : Nat) : ∀ k, Emb (lvR b n k) (lvR a n k)
  | 0 => .cons rfl (fun x hx => by
      have hx' : x ∈ closL b b.start := hx
      rw [closL_mem hB.mi hB.st] at hx'
      show x ∈ closL a a.start
      rw [closL_mem hA.mi hA.st]
      exact h.rch (fun y hy => by rw [← h.start]; exact hy) hx') .nil
  | k + 1 => by
    rw [lvR, lvR]
    refine (h.lv hB hA n k).flat (fun p => InS b p.2) (fun q => InS a q.2) (lvR_in hB.mi hB.st n k) (lvR_in hA.mi hA.st n k) fun p q hp hq h1 h2 => ?_
    unfold kidsR
    rw [h.syms]
    refine Emb.flatN fun c _ => ?_
    unfold kidR
    split
    · rename_i hl
      have hl2 := h.least hB hA (next_in hB.mi c p.2) (next_in hA.mi c q.2) (h.next hB hA hp hq h2 c) hl
      rw [if_pos hl2]
      exact .cons (by rw [h1]) (h.next hB hA hp hq h2 c) .nil
    · exact Emb.none _
theorem Emb.out {b a : Aut} (h : ALe b a) {l m : List Pf} (he : Emb l m) : (outP b l).Sublist (outP a m) := by
  induction he with
  | nil => exact .slnil
  | @skip l m q _ ih =>
    unfold outP at ih ⊢
    rw [List.filter_cons]
    split
    · rw [List.map_cons]; exact ih.cons _
    · exact ih
  | @cons l m p q h1 h2 _ ih =>
    unfold outP at ih ⊢
    rw [List.filter_cons, List.filter_cons]
    by_cases hb : accB b p.2 = true
    · have ha : accB a q.2 = true := by
        unfold accB at hb ⊢
        obtain ⟨s, hs, hf⟩ := List.any_eq_true.1 hb
        exact List.any_eq_true.2 ⟨s, h2 s hs, h.fi s hf⟩
      rw [if_pos hb, if_pos ha, List.map_cons, List.map_cons, h1]
      exact ih.cons₂ _
    · rw [if_neg hb]
      split
      · rw [List.map_cons]; exact ih.cons _
      · exact ih
theorem ALe.sum {b a : Aut} (h : ALe b a) (hB : AOk b) (hA : AOk a) (n k : Nat) : (sumR b n k).Sublist (sumR a n k) := by
  induction k with
  | zero => exact .slnil
  | succ k ih => rw [sumR_snoc, sumR_snoc]; exact ih.append (Emb.out h (h.lv hB hA n k))
theorem ALe.words {b a : Aut} (h : ALe b a) (hB : AOk b) (hA : AOk a) (n : Nat) (hbig : ¬ bigP a n) : ¬ bigP b n ∧ ∀ w ∈ sumP b n (n + 1), w ∈ sumP a n (n + 1) := by
  have hs := h.sum hB hA n (n + 1)
  rw [sum_same hB.mi hB.st (Nat.le_refl _), sum_same hA.mi hA.st (Nat.le_refl _)]
  refine ⟨?_, fun w hw => hs.subset hw⟩
  rintro (⟨k, h1, h2⟩ | h1)
  · refine hbig (.inl ⟨k, h1, ?_⟩)
    rw [lv_len hB.mi hB.st] at h2
    rw [lv_len hA.mi hA.st]
    have := (h.lv hB hA n (k + 1)).len
    omega
  · refine hbig (.inr ?_)
    rw [sum_same hB.mi hB.st (Nat.le_refl _)] at h1
    rw [sum_same hA.mi hA.st (Nat.le_refl _)]
    have := hs.length_le
    omega
end Go.Proofs.YtebcjijpdhbcdaaGreat
