/-
  Plain laws: the classes are one list; lists of classes in the order of their least elements. No program in sight.
-/
import Derived.Test.YtoanjgpdepaciaaGreatLp
namespace Go.Cb
open Go.En
set_option linter.all false

theorem asc_ext : ∀ {l m : List Int}, l.Pairwise (· < ·) → m.Pairwise (· < ·) → (∀ x, x ∈ l ↔ x ∈ m) → l = m
  | [], [], _, _, _ => rfl
  | [], b :: m, _, _, h => by have := (h b).2 (by simp); simp at this
  | a :: l, [], _, _, h => by have := (h a).1 (by simp); simp at this
  | a :: l, b :: m, hl, hm, h => by
    rw [List.pairwise_cons] at hl hm
    have hab : a = b := by
      have h1 := (h a).1 (by simp)
      have h2 := (h b).2 (by simp)
      rcases List.mem_cons.1 h1 with e | e
      · exact e
      · rcases List.mem_cons.1 h2 with e2 | e2
        · exact e2.symm
        · have := hl.1 b e2
          have := hm.1 a e
          omega
    subst hab
    rw [asc_ext hl.2 hm.2 fun x => ?_]
    constructor
    · intro hx
      have := (h x).1 (by simp [hx])
      rcases List.mem_cons.1 this with e | e
      · subst e; have := hl.1 _ hx; omega
      · exact e
    · intro hx
      have := (h x).2 (by simp [hx])
      rcases List.mem_cons.1 this with e | e
      · subst e; have := hm.1 _ hx; omega
      · exact e
def headI (c : List Int) : Int := c[0]?.getD 0
theorem headI_mem {c : List Int} (h : c ≠ []) : headI c ∈ c := by
  cases c with
  | nil => exact absurd rfl h
  | cons a t => exact List.mem_cons_self
theorem headI_head? {c : List Int} (h : c ≠ []) : c.head? = some (headI c) := by
  cases c with
  | nil => exact absurd rfl h
  | cons a t => rfl
theorem heads_ext : ∀ {l m : List (List Int)}, l.Pairwise (fun c d => headI c < headI d) → m.Pairwise (fun c d => headI c < headI d) → (∀ c, c ∈ l ↔ c ∈ m) → l = m
  | [], [], _, _, _ => rfl
  | [], b :: m, _, _, h => by have := (h b).2 (by simp); simp at this
  | a :: l, [], _, _, h => by have := (h a).1 (by simp); simp at this
  | a :: l, b :: m, hl, hm, h => by
    rw [List.pairwise_cons] at hl hm
    have hab : a = b := by
      have h1 := (h a).1 (by simp)
      have h2 := (h b).2 (by simp)
      rcases List.mem_cons.1 h1 with e | e
      · exact e
      · rcases List.mem_cons.1 h2 with e2 | e2
        · exact e2.symm
        · have := hl.1 b e2
          have := hm.1 a e
          omega
    subst hab
    rw [heads_ext hl.2 hm.2 fun x => ?_]
    constructor
    · intro hx
      have := (h x).1 (by simp [hx])
      rcases List.mem_cons.1 this with e | e
      · subst e; have := hl.1 _ hx; omega
      · exact e
    · intro hx
      have := (h x).2 (by simp [hx])
      rcases List.mem_cons.1 this with e | e
      · subst e; have := hm.1 _ hx; omega
      · exact e
theorem Comps.heads {l : List Int} {r : Int → Int → Bool} {cs : List (List Int)} (h : Comps l r cs) : cs.Pairwise (fun c d => headI c < headI d) := by
  refine List.Pairwise.imp_of_mem (fun {c d} hc hd hcd => ?_) h.ord
  exact hcd _ _ (headI_head? (h.ne c hc)) (headI_head? (h.ne d hd))
theorem Comps.closed {l : List Int} {r : Int → Int → Bool} {cs : List (List Int)} (h : Comps l r cs) {c : List Int} (hc : c ∈ cs) {x y : Int} (hx : x ∈ c) (hxy : Conn l r x y) : y ∈ c :=
  hxy (fun z => z ∈ c) (fun a b ha hb hr ha' => h.clos c hc a ha' b hb hr) hx
theorem Comps.unique {l : List Int} {r r' : Int → Int → Bool} {cs ds : List (List Int)} (h : Comps l r cs) (k : Comps l r' ds) (hr : ∀ x ∈ l, ∀ y ∈ l, (r x y = true ∨ r y x = true) ↔ (r' x y = true ∨ r' y x = true)) : cs = ds := by
  have hC : ∀ x y, Conn l r x y ↔ Conn l r' x y := fun x y =>
    ⟨fun h P hP => h P fun a b ha hb hab => hP a b ha hb ((hr a ha b hb).1 hab), fun h P hP => h P fun a b ha hb hab => hP a b ha hb ((hr a ha b hb).2 hab)⟩
  have key : ∀ {l : List Int} {r r' : Int → Int → Bool} {cs ds : List (List Int)}, Comps l r cs → Comps l r' ds → (∀ x y, Conn l r x y ↔ Conn l r' x y) → ∀ c ∈ cs, c ∈ ds := fun {l r r' cs ds} h k hC c hc => by
    have hm := headI_mem (h.ne c hc)
    have hl := (h.mem _).1 (List.mem_flatten.2 ⟨c, hc, hm⟩)
    obtain ⟨d, hd, hmd⟩ := List.mem_flatten.1 ((k.mem _).2 hl)
    have : c = d := asc_ext (h.asc c hc) (k.asc d hd) fun x =>
      ⟨fun hx => k.closed hd hmd ((hC _ _).1 (h.conn c hc _ hm x hx)), fun hx => h.closed hc hm ((hC _ _).2 (k.conn d hd _ hmd x hx))⟩
    rw [this]; exact hd
  exact heads_ext h.heads k.heads fun c => ⟨key h k hC c, key k h (fun x y => (hC x y).symm) c⟩
end Go.Cb
