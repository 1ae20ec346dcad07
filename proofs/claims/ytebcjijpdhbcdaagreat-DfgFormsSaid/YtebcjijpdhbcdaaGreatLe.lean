/-
  Plain laws: counting into an ordered list, as the reference does. No program in sight.
  Walks of the reference: add, follow.
  Walks of the reference: Make.
-/
import Derived.Test.YtebcjijpdhbcdaaGreatLd
import Derived.Test.YtebcjijpdhbcdaaGreatLp
namespace Go.Proofs.YtebcjijpdhbcdaaGreat
open Go.RowKit Go.Cb Go.En
set_option linter.all false

section
variable {κ : Type} [DecidableEq κ]
def addK (lt : κ → κ → Bool) : List (κ × Int) → κ → Int → List (κ × Int)
  | [], k, n => [(k, n)]
  | c :: t, k, n => if lt c.1 k then c :: addK lt t k n else if c.1 = k then (k, c.2 + n) :: t else (k, n) :: c :: t
structure Ord (lt : κ → κ → Bool) : Prop where
  irr : ∀ a, lt a a = false
  tr : ∀ a b c, lt a b = true → lt b c = true → lt a c = true
  tot : ∀ a b, lt a b = false → lt b a = false → a = b
theorem iget_none {m : List (κ × Int)} {k : κ} (h : ∀ x ∈ m, x.1 ≠ k) : iget m k = 0 := by
  induction m with
  | nil => rfl
  | cons x m ih => rw [iget, if_neg (fun e => h x (by simp) e.symm)]; exact ih fun y hy => h y (by simp [hy])
theorem iput_none {m : List (κ × Int)} {k : κ} {v : Int} (h : ∀ x ∈ m, x.1 ≠ k) : iput m k v = m ++ [(k, v)] := by
  induction m with
  | nil => rfl
  | cons x m ih => rw [iput, if_neg (fun e => h x (by simp) e.symm), ih fun y hy => h y (by simp [hy])]; rfl
theorem iadd_cons (x : κ × Int) (m : List (κ × Int)) (k : κ) (n : Int) : iadd (x :: m) k n = if k = x.1 then (k, x.2 + n) :: m else x :: iadd m k n := by
  unfold iadd
  rw [iget, iput]
  split <;> rfl
theorem iadd_perm {m m' : List (κ × Int)} {k : κ} {n : Int} (h : m.Perm m') : (m.map (·.1)).Nodup → (iadd m k n).Perm (iadd m' k n) := by
  induction h with
  | nil => intro _; exact .refl _
  | cons x _ ih =>
    intro hn
    rw [List.map_cons, List.nodup_cons] at hn
    rw [iadd_cons, iadd_cons]
    split
    · rename_i h e; exact (by assumption : List.Perm _ _).cons _
    · exact (ih hn.2).cons _
  | swap x y l =>
    intro hn
    rw [List.map_cons, List.map_cons, List.nodup_cons] at hn
    have hne : y.1 ≠ x.1 := fun e => hn.1 (by rw [e]; simp)
    rw [iadd_cons, iadd_cons, iadd_cons, iadd_cons]
    by_cases e1 : k = y.1
    · rw [if_pos e1, if_neg (fun e => hne (e1.symm.trans e)), if_pos e1]
      exact List.Perm.swap _ _ _
    · rw [if_neg e1, if_neg e1]
      split
      · exact List.Perm.swap _ _ _
      · exact List.Perm.swap _ _ _
  | trans h1 _ ih1 ih2 =>
    intro hn
    exact (ih1 hn).trans (ih2 (((h1.map (fun x : κ × Int => x.1)).pairwise_iff (R := (· ≠ ·)) fun h => Ne.symm h).1 hn))
theorem addK_iadd {lt : κ → κ → Bool} (hO : Ord lt) {k : κ} {n : Int} : ∀ {L : List (κ × Int)}, L.Pairwise (fun a b => lt a.1 b.1 = true) → (addK lt L k n).Perm (iadd L k n)
  | [], _ => by
    show List.Perm [(k, n)] [(k, 0 + n)]
    rw [Int.zero_add]
  | c :: t, h => by
    rw [List.pairwise_cons] at h
    rw [addK, iadd_cons]
    by_cases h1 : lt c.1 k = true
    · rw [if_pos h1, if_neg (fun e => by rw [e, hO.irr] at h1; exact Bool.noConfusion h1)]
      exact (addK_iadd hO h.2).cons c
    · rw [if_neg h1]
      by_cases h2 : c.1 = k
      · rw [if_pos h2, if_pos h2.symm]
      · rw [if_neg h2, if_neg (Ne.symm h2)]
        have h3 : lt k c.1 = true := by
          cases h4 : lt k c.1 with
          | true => rfl
          | false => exact absurd (hO.tot _ _ (by simpa using h1) h4) h2
        have h5 : ∀ x ∈ t, x.1 ≠ k := fun x hx e => by
          have h6 := hO.tr _ _ _ h3 (h.1 x hx)
          rw [e, hO.irr] at h6; exact Bool.noConfusion h6
        unfold iadd
        rw [iget_none h5, iput_none h5, Int.zero_add]
        exact (List.Perm.swap _ _ _).trans ((List.perm_append_singleton _ _).symm.cons c)
theorem addK_mem {lt : κ → κ → Bool} {k : κ} {n : Int} : ∀ {L : List (κ × Int)} {x : κ × Int}, x ∈ addK lt L k n → x.1 = k ∨ x ∈ L
  | [], x, h => by simp [addK] at h; exact .inl (by rw [h])
  | c :: t, x, h => by
    rw [addK] at h
    split at h
    · rcases List.mem_cons.1 h with h | h
      · exact .inr (by simp [h])
      · rcases addK_mem h with h | h
        · exact .inl h
        · exact .inr (by simp [h])
    · split at h
      · rcases List.mem_cons.1 h with h | h
        · exact .inl (by rw [h])
        · exact .inr (by simp [h])
      · rcases List.mem_cons.1 h with h | h
        · exact .inl (by rw [h])
        · exact .inr h
theorem addK_sorted {lt : κ → κ → Bool} (hO : Ord lt) {k : κ} {n : Int} : ∀ {L : List (κ × Int)}, L.Pairwise (fun a b => lt a.1 b.1 = true) → (addK lt L k n).Pairwise fun a b => lt a.1 b.1 = true
  | [], _ => by simp [addK]
  | c :: t, h => by
    have h' := h
    rw [List.pairwise_cons] at h
    rw [addK]
    by_cases h1 : lt c.1 k = true
    · rw [if_pos h1, List.pairwise_cons]
      refine ⟨fun x hx => ?_, addK_sorted hO h.2⟩
      rcases addK_mem hx with e | e
      · rw [e]; exact h1
      · exact h.1 x e
    · rw [if_neg h1]
      by_cases h2 : c.1 = k
      · rw [if_pos h2, List.pairwise_cons]
        exact ⟨fun x hx => h2 ▸ h.1 x hx, h.2⟩
      · rw [if_neg h2, List.pairwise_cons]
        have h3 : lt k c.1 = true := by
          cases h4 : lt k c.1 with
          | true => rfl
          | false => exact absurd (hO.tot _ _ (by simpa using h1) h4) h2
        refine ⟨fun x hx => ?_, h'⟩
        rcases List.mem_cons.1 hx with e | e
        · rw [e]; exact h3
        · exact hO.tr _ _ _ h3 (h.1 x e)
def SameK (lt : κ → κ → Bool) (L m : List (κ × Int)) : Prop := L.Perm m ∧ L.Pairwise fun a b => lt a.1 b.1 = true
theorem SameK.add {lt : κ → κ → Bool} (hO : Ord lt) {L m : List (κ × Int)} (h : SameK lt L m) (hn : (m.map (·.1)).Nodup) (k : κ) (n : Int) : SameK lt (addK lt L k n) (iadd m k n) := by
  refine ⟨(addK_iadd hO h.2).trans (iadd_perm h.1 ?_), addK_sorted hO h.2⟩
  exact ((h.1.map (fun x : κ × Int => x.1)).pairwise_iff (R := (· ≠ ·)) fun h => Ne.symm h).2 hn
theorem SameK.unique {lt : κ → κ → Bool} (hO : Ord lt) {L L' m : List (κ × Int)} (h : SameK lt L m) (k : SameK lt L' m) : L = L' :=
  rel_ext (fun a _ b _ hab hba => by
    have := hO.tr _ _ _ hab hba
    rw [hO.irr] at this; exact Bool.noConfusion this) h.2 k.2 fun c => by rw [h.1.mem_iff, k.1.mem_iff]
end
theorem ordStr : Ord strLt := ⟨strLt_irrefl, fun _ _ _ => strLt_trans, fun _ _ => strLt_total⟩
def prLt (a b : Pr) : Bool := flwLt ⟨a.1, a.2, 0⟩ ⟨b.1, b.2, 0⟩
theorem ordPr : Ord prLt := ⟨fun a => decide_eq_false (flwCmp_irrefl _), fun a b c h1 h2 => decide_eq_true (flwCmp_trans (of_decide_eq_true h1) (of_decide_eq_true h2)), fun a b h1 h2 => by
  have h1 := of_decide_eq_false h1
  have h2 := of_decide_eq_false h2
  by_cases e : a.1 = b.1 ∧ a.2 = b.2
  · exact Prod.ext e.1 e.2
  · exact absurd (flwCmp_total h2 e) h1⟩
def unC (c : Cnt) : ByteArray × Int := (c.name, c.n)
def unF (f : Flw) : Pr × Int := ((f.src, f.dst), f.n)
theorem sameC_iff {L : List Cnt} {m : List (ByteArray × Int)} : SameC L m ↔ SameK strLt (L.map unC) m := by
  unfold SameC SameK
  rw [List.pairwise_map]
  constructor
  · rintro ⟨h1, h2⟩
    refine ⟨?_, h2⟩
    have := h1.map unC
    rw [List.map_map] at this
    exact this.trans (List.Perm.of_eq (List.map_id _))
  · rintro ⟨h1, h2⟩
    refine ⟨?_, h2⟩
    have := h1.map mkC
    rw [List.map_map] at this
    exact (List.Perm.of_eq (List.map_id _).symm).trans this
theorem sameF_iff {L : List Flw} {m : List (Pr × Int)} : SameF L m ↔ SameK prLt (L.map unF) m := by
  unfold SameF SameK
  rw [List.pairwise_map]
  have hlt : ∀ a b : Flw, prLt (unF a).1 (unF b).1 = true ↔ flwCmp a b < 0 := fun a b => decide_eq_true_iff
  constructor
  · rintro ⟨h1, h2⟩
    refine ⟨?_, h2.imp fun h => (hlt _ _).2 h⟩
    have := h1.map unF
    rw [List.map_map] at this
    exact this.trans (List.Perm.of_eq (List.map_id _))
  · rintro ⟨h1, h2⟩
    refine ⟨?_, h2.imp fun h => (hlt _ _).1 h⟩
    have := h1.map mkF
    rw [List.map_map] at this
    exact (List.Perm.of_eq (List.map_id _).symm).trans this
def addC (L : List Cnt) (s : ByteArray) (n : Int) : List Cnt := (addK strLt (L.map unC) s n).map mkC
def addF (L : List Flw) (p : Pr) (n : Int) : List Flw := (addK prLt (L.map unF) p n).map mkF
theorem sameC_add {L : List Cnt} {m : List (ByteArray × Int)} (h : SameC L m) (hn : (m.map (·.1)).Nodup) (s : ByteArray) (n : Int) : SameC (addC L s n) (iadd m s n) := by
  rw [sameC_iff] at h ⊢
  unfold addC
  rw [List.map_map, show (unC ∘ mkC) = id from rfl, List.map_id]
  exact h.add ordStr hn s n
theorem sameF_add {L : List Flw} {m : List (Pr × Int)} (h : SameF L m) (hn : (m.map (·.1)).Nodup) (p : Pr) (n : Int) : SameF (addF L p n) (iadd m p n) := by
  rw [sameF_iff] at h ⊢
  unfold addF
  rw [List.map_map, show (unF ∘ mkF) = id from rfl, List.map_id]
  exact h.add ordPr hn p n
theorem sameC_unique {L L' : List Cnt} {m : List (ByteArray × Int)} (h : SameC L m) (k : SameC L' m) : L = L' := by
  rw [sameC_iff] at h k
  have := congrArg (List.map mkC) (h.unique ordStr k)
  rw [List.map_map, List.map_map] at this
  exact (List.map_id L).symm.trans (this.trans (List.map_id L'))
theorem sameF_unique {L L' : List Flw} {m : List (Pr × Int)} (h : SameF L m) (k : SameF L' m) : L = L' := by
  rw [sameF_iff] at h k
  have := congrArg (List.map mkF) (h.unique ordPr k)
  rw [List.map_map, List.map_map] at this
  exact (List.map_id L).symm.trans (this.trans (List.map_id L'))
end Go.Proofs.YtebcjijpdhbcdaaGreat

namespace Go.Proofs.YtebcjijpdhbcdaaGreat
open Go.RowKit Go.Cb Go.En
set_option linter.all false
set_option maxRecDepth 100000

theorem cCnt_one (L : List Cnt) : (L.flatMap cCnt).all En.one = true := by rw [List.all_flatMap, List.all_eq_true]; intro x _; rfl
theorem cFlw_one (L : List Flw) : (L.flatMap cFlw).all En.one = true := by rw [List.all_flatMap, List.all_eq_true]; intro x _; rfl
end Go.Proofs.YtebcjijpdhbcdaaGreat

namespace Go.Proofs.YtebcjijpdhbcdaaGreat
open Go.RowKit Go.Cb Go.En
set_option linter.all false
set_option maxRecDepth 100000

structure MidG (st : M4) (x : Var) (j : Nat) (g : Dfg) : Prop where
  a : SameC g.acts (midA st x j)
  s : SameC g.starts (if j = 0 then st.s else (mk1 st x).s)
  f : SameC g.ends (if j = x.acts.length then (mk1 st x).f else st.f)
  q : SameF g.follows (midQ st x j)
theorem mk1_s {st : M4} {x : Var} {s : ByteArray} (hs : x.acts[0]? = some s) : (mk1 st x).s = iadd st.s s x.count := by
  unfold mk1
  cases hc : x.acts with
  | nil => rw [hc] at hs; simp at hs
  | cons z t => rw [hc] at hs; simp at hs; subst hs; rfl
theorem mk1_f {st : M4} {x : Var} {j : Nat} {s : ByteArray} (hs : x.acts[j]? = some s) (hj : j + 1 = x.acts.length) : (mk1 st x).f = iadd st.f s x.count := by
  unfold mk1
  rw [List.getLast?_eq_getElem?, show x.acts.length - 1 = j by omega, hs]
theorem MidG.start {st : M4} {x : Var} {g : Dfg} (h : SameG g st) : MidG st x 0 g := by
  refine ⟨h.1, by rw [if_pos rfl]; exact h.2.1, ?_, h.2.2.2⟩
  split
  · rename_i h0
    have h1 : (mk1 st x).f = st.f := by unfold mk1; rw [List.eq_nil_of_length_eq_zero h0.symm]; rfl
    rw [h1]; exact h.2.2.1
  · exact h.2.2.1
theorem MidG.step {st : M4} {x : Var} {j b : Nat} {g : Dfg} {s : ByteArray} (h : MidG st x j g) (hK : KOk st b) (hxo : okVar x = true) (hs : x.acts[j]? = some s) {S' F' : List Cnt} {Q' : List Flw}
    (hS : (j = 0 ∧ S' = addC g.starts s x.count) ∨ (j ≠ 0 ∧ S' = g.starts)) (hQ : (j = 0 ∧ Q' = g.follows) ∨ (∃ (j' : Nat) (a : ByteArray), j = j' + 1 ∧ x.acts[j']? = some a ∧ Q' = addF g.follows (a, s) x.count)) (hF : (j + 1 = x.acts.length ∧ F' = addC g.ends s x.count) ∨ (j + 1 ≠ x.acts.length ∧ F' = g.ends)) : MidG st x (j + 1) ⟨addC g.acts s x.count, S', F', Q'⟩ := by
  have hjl := lt_of_get hs
  have hf := h.f
  rw [if_neg (by omega)] at hf
  refine ⟨?_, ?_, ?_, ?_⟩
  · rw [midA_step hs]
    exact sameC_add h.a (midA_ok hK hxo).nd s x.count
  · rw [if_neg (Nat.succ_ne_zero j)]
    have h1 := h.s
    rcases hS with ⟨h0, rfl⟩ | ⟨h0, rfl⟩
    · subst h0
      rw [if_pos rfl] at h1
      rw [mk1_s hs]
      exact sameC_add h1 hK.s.nd s x.count
    · rw [if_neg h0] at h1; exact h1
  · rcases hF with ⟨h0, rfl⟩ | ⟨h0, rfl⟩
    · rw [if_pos h0, mk1_f hs h0]
      exact sameC_add hf hK.f.nd s x.count
    · rw [if_neg h0]; exact hf
  · rcases hQ with ⟨h0, rfl⟩ | ⟨j', a, rfl, ha, rfl⟩
    · subst h0
      rw [midQ_zero hs]; exact h.q
    · rw [midQ_step ha hs]
      exact sameF_add h.q (midQ_ok hK hxo).1.nd (a, s) x.count
theorem MidG.done {st : M4} {x : Var} {g : Dfg} (h : MidG st x x.acts.length g) : SameG g (mk1 st x) := by
  have eA : midA st x x.acts.length = (mk1 st x).a := by unfold midA mk1; rw [List.take_length]
  have eQ : midQ st x x.acts.length = (mk1 st x).q := by unfold midQ mk1; rw [List.take_length]
  have h2 := h.s
  have h3 := h.f
  rw [if_pos rfl] at h3
  refine ⟨eA ▸ h.a, ?_, h3, eQ ▸ h.q⟩
  split at h2
  · rename_i h0
    have h1 : (mk1 st x).s = st.s := by unfold mk1; rw [List.eq_nil_of_length_eq_zero h0]
    rw [h1]; exact h2
  · exact h2
theorem sameG_unique {g g' : Dfg} {st : M4} (h : SameG g st) (k : SameG g' st) : g = g' := by
  obtain ⟨a, s, f, q⟩ := g
  obtain ⟨a', s', f', q'⟩ := g'
  have e1 := sameC_unique h.1 k.1
  have e2 := sameC_unique h.2.1 k.2.1
  have e3 := sameC_unique h.2.2.1 k.2.2.1
  have e4 := sameF_unique h.2.2.2 k.2.2.2
  dsimp only at e1 e2 e3 e4
  rw [e1, e2, e3, e4]
end Go.Proofs.YtebcjijpdhbcdaaGreat
