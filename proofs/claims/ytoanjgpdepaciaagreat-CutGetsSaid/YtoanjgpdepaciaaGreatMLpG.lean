/-
  Plain laws: lists in the order of a relation; a part as an ascending list; the least of a list. No program in sight.
-/
import Derived.Test.YtoanjgpdepaciaaGreatMLpF
namespace Go.Cb
open Go.En
set_option linter.all false

theorem rel_ext {α : Type} {rel : α → α → Prop} : ∀ {l m : List α}, (∀ a ∈ l, ∀ b ∈ l, rel a b → ¬ rel b a) → l.Pairwise rel → m.Pairwise rel → (∀ c, c ∈ l ↔ c ∈ m) → l = m
  | [], [], _, _, _, _ => rfl
  | [], b :: m, _, _, _, h => by have := (h b).2 (by simp); simp at this
  | a :: l, [], _, _, _, h => by have := (h a).1 (by simp); simp at this
  | a :: l, b :: m, ha, hl, hm, h => by
    rw [List.pairwise_cons] at hl hm
    have hab : a = b := by
      have h1 := (h a).1 (by simp)
      have h2 := (h b).2 (by simp)
      rcases List.mem_cons.1 h1 with e | e
      · exact e
      · rcases List.mem_cons.1 h2 with e2 | e2
        · exact e2.symm
        · exact absurd (hm.1 a e) (ha a (by simp) b h2 (hl.1 b e2))
    subst hab
    have hirr : ¬ rel a a := fun hr => ha a (by simp) a (by simp) hr hr
    rw [rel_ext (fun x hx y hy => ha x (by simp [hx]) y (by simp [hy])) hl.2 hm.2 fun x => ?_]
    constructor
    · intro hx
      rcases List.mem_cons.1 ((h x).1 (by simp [hx])) with e | e
      · subst e; exact absurd (hl.1 _ hx) hirr
      · exact e
    · intro hx
      rcases List.mem_cons.1 ((h x).2 (by simp [hx])) with e | e
      · subst e; exact absurd (hm.1 _ hx) hirr
      · exact e
theorem ins_perm {α : Type} (out : List α) (c : α) (k : Nat) : (out.take k ++ c :: out.drop k).Perm (out ++ [c]) := by
  refine List.perm_middle.trans ?_
  rw [List.take_append_drop]
  exact (List.perm_append_singleton c out).symm
theorem ins_sorted {α : Type} {rel : α → α → Prop} {out : List α} {c : α} {k : Nat} (hs : out.Pairwise rel) (h1 : ∀ j x, j < k → out[j]? = some x → rel x c) (h2 : ∀ x, out[k]? = some x → rel c x) (htr : ∀ x ∈ out, ∀ y ∈ out, rel c x → rel x y → rel c y) : (out.take k ++ c :: out.drop k).Pairwise rel := by
  have hs' := hs
  rw [← List.take_append_drop k out, List.pairwise_append] at hs
  rw [List.pairwise_append, List.pairwise_cons]
  have hd : ∀ y ∈ out.drop k, rel c y := fun y hy => by
    cases hdr : out.drop k with
    | nil => rw [hdr] at hy; simp at hy
    | cons x t =>
      have hx : out[k]? = some x := by
        have : (out.drop k)[0]? = some x := by rw [hdr]; rfl
        rw [List.getElem?_drop, Nat.add_zero] at this; exact this
      have hcx := h2 x hx
      have hp := hs.2.1
      rw [hdr] at hy hp
      rw [List.pairwise_cons] at hp
      rcases List.mem_cons.1 hy with e | e
      · rw [e]; exact hcx
      · exact htr x (List.mem_of_getElem? hx) y (List.mem_of_mem_drop (by rw [hdr]; exact hy)) hcx (hp.1 y e)
  refine ⟨hs.1, ⟨hd, hs.2.1⟩, fun a ha b hb => ?_⟩
  rcases List.mem_cons.1 hb with e | e
  · obtain ⟨j, hj⟩ := List.getElem?_of_mem ha
    have hjl := lt_of_get hj
    rw [List.length_take] at hjl
    rw [List.getElem?_take_of_lt (by omega)] at hj
    rw [e]; exact h1 j a (by omega) hj
  · exact hs.2.2 a ha b e
theorem LabPass.less {n : Nat} {I : Nat → Bool} {r : Int → Int → Bool} {t : Nat → Nat → Bool} {lab0 lab : Nat → Nat} {ag : Bool} {a b : Nat} (h : LabPass n I r t lab0 lab ag a b) : sumTo n lab + (if ag then 1 else 0) < sumTo n lab0 + (if true then 1 else 0) := by
  cases hg : ag with
  | true => have := h.les hg; simp; omega
  | false => rw [(h.eq hg).1]; simp
def normI (n : Nat) (c : List Int) : List Int := (List.range n).flatMap fun k : Nat => c.filter fun x => decide (x = (k : Int))
theorem normI_mem {n : Nat} {c : List Int} {x : Int} : x ∈ normI n c ↔ x ∈ c ∧ 0 ≤ x ∧ x < n := by
  unfold normI
  simp only [List.mem_flatMap, List.mem_range, List.mem_filter, decide_eq_true_eq]
  constructor
  · rintro ⟨k, h1, h2, rfl⟩; exact ⟨h2, by omega, by omega⟩
  · rintro ⟨h1, h2, h3⟩; exact ⟨x.toNat, by omega, h1, by omega⟩
theorem normI_succ (n : Nat) (c : List Int) : normI (n + 1) c = normI n c ++ c.filter fun x => decide (x = (n : Int)) := by
  unfold normI
  rw [List.range_succ, List.flatMap_append]; simp
theorem normI_asc {c : List Int} (h : c.Nodup) : ∀ n, (normI n c).Pairwise (· < ·)
  | 0 => List.Pairwise.nil
  | n + 1 => by
    rw [normI_succ, List.pairwise_append]
    refine ⟨normI_asc h n, List.Pairwise.imp_of_mem (R := (· ≠ ·)) (fun {a b} ha hb hab => ?_) (List.Pairwise.filter _ h), fun a ha b hb => ?_⟩
    · simp only [List.mem_filter, decide_eq_true_eq] at ha hb
      exact absurd (ha.2.trans hb.2.symm) hab
    · have := normI_mem.1 ha
      simp only [List.mem_filter, decide_eq_true_eq] at hb
      omega
theorem normI_id {n : Nat} {c : List Int} (h : c.Pairwise (· < ·)) (hb : ∀ x ∈ c, 0 ≤ x ∧ x < n) : normI n c = c :=
  asc_ext (normI_asc (h.imp fun h => by omega) n) h fun x => by rw [normI_mem]; exact ⟨fun h => h.1, fun h => ⟨h, hb x h⟩⟩
theorem normI_sort {n : Nat} {c : List Int} (h : c.Nodup) (hb : ∀ x ∈ c, 0 ≤ x ∧ x < n) : normI n c = c.mergeSort fun x y => decide (x ≤ y) :=
  asc_ext (normI_asc h n) (sort_asc h) fun x => by rw [normI_mem, sort_mem]; exact ⟨fun h => h.1, fun h => ⟨h, hb x h⟩⟩
def leastI (c : List Int) : Int := c.foldl (fun a b => if b < a then b else a) (headI c)
theorem foldl_least : ∀ (c : List Int) (a : Int), (c.foldl (fun a b => if b < a then b else a) a ≤ a) ∧ (∀ x ∈ c, c.foldl (fun a b => if b < a then b else a) a ≤ x) ∧ (c.foldl (fun a b => if b < a then b else a) a = a ∨ c.foldl (fun a b => if b < a then b else a) a ∈ c)
  | [], a => ⟨Int.le_refl _, by simp, .inl rfl⟩
  | y :: c, a => by
    rw [List.foldl_cons]
    obtain ⟨h1, h2, h3⟩ := foldl_least c (if y < a then y else a)
    have h4 : (if y < a then y else a) ≤ a ∧ (if y < a then y else a) ≤ y ∧ ((if y < a then y else a) = a ∨ (if y < a then y else a) = y) := by split <;> omega
    refine ⟨by omega, fun x hx => ?_, ?_⟩
    · rcases List.mem_cons.1 hx with e | e
      · rw [e]; omega
      · exact h2 x e
    · rcases h3 with h3 | h3
      · rcases h4.2.2 with h5 | h5
        · exact .inl (h3.trans h5)
        · exact .inr (by rw [h3, h5]; simp)
      · exact .inr (by simp [h3])
theorem leastI_spec {c : List Int} (h : c ≠ []) : leastI c ∈ c ∧ ∀ x ∈ c, leastI c ≤ x := by
  obtain ⟨h1, h2, h3⟩ := foldl_least c (headI c)
  refine ⟨?_, h2⟩
  rcases h3 with h3 | h3
  · unfold leastI; rw [h3]; exact headI_mem h
  · exact h3
theorem headI_asc {c : List Int} (h : c ≠ []) (ha : c.Pairwise (· < ·)) : ∀ x ∈ c, headI c ≤ x := by
  cases c with
  | nil => exact absurd rfl h
  | cons a t =>
    intro x hx
    rw [List.pairwise_cons] at ha
    rcases List.mem_cons.1 hx with e | e
    · rw [e]; exact Int.le_refl _
    · have := ha.1 x e
      show a ≤ x
      omega
theorem leastI_norm {n : Nat} {c : List Int} (h : c ≠ []) (hn : c.Nodup) (hb : ∀ x ∈ c, 0 ≤ x ∧ x < n) : headI (normI n c) = leastI c := by
  obtain ⟨h1, h2⟩ := leastI_spec h
  have hm : ∀ x, x ∈ normI n c ↔ x ∈ c := fun x => by rw [normI_mem]; exact ⟨fun h => h.1, fun h => ⟨h, hb x h⟩⟩
  have hne : normI n c ≠ [] := fun e => by have := (hm _).2 h1; rw [e] at this; simp at this
  have h3 := headI_asc hne (normI_asc hn n) _ ((hm _).2 h1)
  have h4 := h2 _ ((hm _).1 (headI_mem hne))
  omega
end Go.Cb
