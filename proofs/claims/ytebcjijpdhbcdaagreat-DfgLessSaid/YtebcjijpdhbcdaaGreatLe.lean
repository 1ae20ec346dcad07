/-
  Plain laws: counting into an ordered list, as the reference does. No program in sight.
  Walks of the reference: add, follow.
  Walks of the reference: Make.
-/
import Derived.Test.YtebcjijpdhbcdaaGreatLd
import Derived.Test.YtebcjijpdhbcdaaGreatLp
namespace Go.Proofs.YtebcjijpdhbcdaaGreat
open Go.RowKit Go.Cb Go.En
set_option linter.all false

section
variable {κ : Type} [DecidableEq κ]
def addK (lt : κ → κ → Bool) : List (κ × Int) → κ → Int → List (κ × Int)
  | [], k, n => [(k, n)]
  | c :: t, k, n => if lt c.1 k then c :: addK lt t k n else if c.1 = k then (k, c.2 + n) :: t else (k, n) :: c :: t
structure Ord (lt : κ → κ → Bool) : Prop where
  irr : ∀ a, lt a a = false
  tr : ∀ a b c, lt a b = true → lt b c = true → lt a c = true
  tot : ∀ a b, lt a b = false → lt b a = false → a = b
theorem iget_none {m : List (κ × Int)} {k : κ} (h : ∀ x ∈ m, x.1 ≠ k) : iget m k = 0 := by
  induction m with
  | nil => rfl
  | cons x m ih => rw [iget, if_neg (fun e => h x (by simp) e.symm)]; exact ih fun y hy => h y (by simp [hy])
theorem iput_none {m : List (κ × Int)} {k : κ} {v : Int} (h : ∀ x ∈ m, x.1 ≠ k) : iput m k v = m ++ [(k, v)] := by
  induction m with
  | nil => rfl
  | cons x m ih => rw [iput, if_neg (fun e => h x (by simp) e.symm), ih fun y hy => h y (by simp [hy])]; rfl
theorem iadd_cons (x : κ × Int) (m : List (κ × Int)) (k : κ) (n : Int) : iadd (x :: m) k n = if k = x.1 then (k, x.2 + n) :: m else x :: iadd m k n := by
  unfold iadd
  rw [iget, iput]
  split <;> rfl
theorem iadd_perm {m m' : List (κ × Int)} {k : κ} {n : Int} (h : m.Perm m') : (m.map (·.1)).Nodup → (iadd m k n).Perm (iadd m' k n) := by
  induction h with
  | nil => intro _; exact .refl _
  | cons x _ ih =>
    intro hn
    rw [List.map_cons, List.nodup_cons] at hn
    rw [iadd_cons, iadd_cons]
    split
    · rename_i h e; exact (by assumption : List.Perm _ _).cons _
    · exact (ih hn.2).cons _
  | swap x y l =>
    intro hn
    rw [List.map_cons, List.map_cons, List.nodup_cons] at hn
    have hne : y.1 ≠ x.1 := fun e => hn.1 (by rw [e]; simp)
    rw [iadd_cons, iadd_cons, iadd_cons, iadd_cons]
    by_cases e1 : k = y.1
    · rw [if_pos e1, if_neg (fun e => hne (e1.symm.trans e)), if_pos e1]
      exact List.Perm.swap _ _ _
    · rw [if_neg e1, if_neg e1]
      split
      · exact List.Perm.swap _ _ _
      · exact List.Perm.swap _ _ _
  | trans h1 _ ih1 ih2 =>
    intro hn
    exact (ih1 hn).trans (ih2 (((h1.map (fun x : κ × Int => x.1)).pairwise_iff (R := (· ≠ ·)) fun h => Ne.symm h).1 hn))
theorem addK_iadd {lt : κ → κ → Bool} (hO : Ord lt) {k : κ} {n : Int} : ∀ {L : List (κ × Int)}, L.Pairwise (fun a b => lt a.1 b.1 = true) → (addK lt L k n).Perm (iadd L k n)
  | [], _ => by
    show List.Perm [(k, n)] [(k, 0 + n)]
    rw [Int.zero_add]
  | c :: t, h => by
    rw [List.pairwise_cons] at h
    rw [addK, iadd_cons]
    by_cases h1 : lt c.1 k = true
    · rw [if_pos h1, if_neg (fun e => by rw [e, hO.irr] at h1; exact Bool.noConfusion h1)]
      exact (addK_iadd hO h.2).cons c
    · rw [if_neg h1]
      by_cases h2 : c.1 = k
      · rw [if_pos h2, if_pos h2.symm]
      · rw [if_neg h2, if_neg (Ne.symm h2)]
        have h3 : lt k c.1 = true := by
          cases h4 : lt k c.1 with
          | true => rfl
          | false => exact absurd (hO.tot _ _ (by simpa using h1) h4) h2
        have h5 : ∀ x ∈ t, x.1 ≠ k := fun x hx e => by
          have h6 := hO.tr _ _ _ h3 (h.1 x hx)
          rw [e, hO.irr] at h6; exact Bool.noConfusion h6
        unfold iadd
        rw [iget_none h5, iput_none h5, Int.zero_add]
        exact (List.Perm.swap _ _ _).trans ((List.perm_append_singleton _ _).symm.cons c)
theorem addK_mem {lt : κ → κ → Bool} {k : κ} {n : Int} : ∀ {L : List (κ × Int)} {x : κ × Int}, x ∈ addK lt L k n → x.1 = k ∨ x ∈ L
  | [], x, h => by simp [addK] at h; exact .inl (by rw [h])
  | c :: t, x, h => by
    rw [addK] at h
    split at h
    · rcases List.mem_cons.1 h with h | h
      · exact .inr (by simp [h])
      · rcases addK_mem h with h | h
        · exact .inl h
        · exact .inr (by simp [h])
    · split at h
      · rcases List.mem_cons.1 h with h | h
        · exact .inl (by rw [h])
        · exact .inr (by simp [h])
      · rcases List.mem_cons.1 h with h | h
        · exact .inl (by rw [h])
        · exact .inr h
theorem addK_sorted {lt : κ → κ → Bool} (hO : Ord lt) {k : κ} {n : Int} : ∀ {L : List (κ × Int)}, L.Pairwise (fun a b => lt a.1 b.1 = true) → (addK lt L k n).Pairwise fun a b => lt a.1 b.1 = true
  | [], _ => by simp [addK]
  | c :: t, h => by
    have h' := h
    rw [List.pairwise_cons] at h
    rw [addK]
    by_cases h1 : lt c.1 k = true
    · rw [if_pos h1, List.pairwise_cons]
      refine ⟨fun x hx => ?_, addK_sorted hO h.2⟩
      rcases addK_mem hx with e | e
      · rw [e]; exact h1
      · exact h.1 x e
    · rw [if_neg h1]
      by_cases h2 : c.1 = k
      · rw [if_pos h2, List.pairwise_cons]
        exact ⟨fun x hx => h2 ▸ h.1 x hx, h.2⟩
      · rw [if_neg h2, List.pairwise_cons]
        have h3 : lt k c.1 = true := by
          cases h4 : lt k c.1 with
          | true => rfl
          | false => exact absurd (hO.tot _ _ (by simpa using h1) h4) h2
        refine ⟨fun x hx => ?_, h'⟩
        rcases List.mem_cons.1 hx with e | e
        · rw [e]; exact h3
        · exact hO.tr _ _ _ h3 (h.1 x e)
def SameK (lt : κ → κ → Bool) (L m : List (κ × Int)) : Prop := L.Perm m ∧ L.Pairwise fun a b => lt a.1 b.1 = true
theorem SameK.add {lt : κ → κ → Bool} (hO : Ord lt) {L m : List (κ × Int)} (h : SameK lt L m) (hn : (m.map (·.1)).Nodup) (k : κ) (n : Int) : SameK lt (addK lt L k n) (iadd m k n) := by
  refine ⟨(addK_iadd hO h.2).trans (iadd_perm h.1 ?_), addK_sorted hO h.2⟩
  exact ((h.1.map (fun x : κ × Int => x.1)).pairwise_iff (R := (· ≠ ·)) fun h => Ne.symm h).2 hn
theorem SameK.unique {lt : κ → κ → Bool} (hO : Ord lt) {L L' m : List (κ × Int)} (h : SameK lt L m) (k : SameK lt L' m) : L = L' :=
  rel_ext (fun a _ b _ hab hba => by
    have := hO.tr _ _ _ hab hba
    rw [hO.irr] at this; exact Bool.noConfusion this) h.2 k.2 fun c => by rw [h.1.mem_iff, k.1.mem_iff]
end
theorem ordStr : Ord strLt := ⟨strLt_irrefl, fun _ _ _ => strLt_trans, fun _ _ => strLt_total⟩
def prLt (a b : Pr) : Bool := flwLt ⟨a.1, a.2, 0⟩ ⟨b.1, b.2, 0⟩
theorem ordPr : Ord prLt := ⟨fun a => decide_eq_false (flwCmp_irrefl _), fun a b c h1 h2 => decide_eq_true (flwCmp_trans (of_decide_eq_true h1) (of_decide_eq_true h2)), fun a b h1 h2 => by
  have h1 := of_decide_eq_false h1
  have h2 := of_decide_eq_false h2
  by_cases e : a.1 = b.1 ∧ a.2 = b.2
  · exact Prod.ext e.1 e.2
  · exact absurd (flwCmp_total h2 e) h1⟩
def unC (c : Cnt) : ByteArray × Int := (c.name, c.n)
def unF (f : Flw) : Pr × Int := ((f.src, f.dst), f.n)
theorem sameC_iff {L : List Cnt} {m : List (ByteArray × Int)} : SameC L m ↔ SameK strLt (L.map unC) m := by
  unfold SameC SameK
  rw [List.pairwise_map]
  constructor
  · rintro ⟨h1, h2⟩
    refine ⟨?_, h2⟩
    have := h1.map unC
    rw [List.map_map] at this
    exact this.trans (List.Perm.of_eq (List.map_id _))
  · rintro ⟨h1, h2⟩
    refine ⟨?_, h2⟩
    have := h1.map mkC
    rw [List.map_map] at this
    exact (List.Perm.of_eq (List.map_id _).symm).trans this
theorem sameF_iff {L : List Flw} {m : List (Pr × Int)} : SameF L m ↔ SameK prLt (L.map unF) m := by
  unfold SameF SameK
  rw [List.pairwise_map]
  have hlt : ∀ a b : Flw, prLt (unF a).1 (unF b).1 = true ↔ flwCmp a b < 0 := fun a b => decide_eq_true_iff
  constructor
  · rintro ⟨h1, h2⟩
    refine ⟨?_, h2.imp fun h => (hlt _ _).2 h⟩
    have := h1.map unF
    rw [List.map_map] at this
    exact this.trans (List.Perm.of_eq (List.map_id _))
  · rintro ⟨h1, h2⟩
    refine ⟨?_, h2.imp fun h => (hlt _ _).1 h⟩
    have := h1.map mkF
    rw [List.map_map] at this
    exact (List.Perm.of_eq (List.map_id _).symm).trans this
def addC (L : List Cnt) (s : ByteArray) (n : Int) : List Cnt := (addK strLt (L.map unC) s n).map mkC
def addF (L : List Flw) (p : Pr) (n : Int) : List Flw := (addK prLt (L.map unF) p n).map mkF
theorem sameC_add {L : List Cnt} {m : List (ByteArray × Int)} (h : SameC L m) (hn : (m.map (·.1)).Nodup) (s : ByteArray) (n : Int) : SameC (addC L s n) (iadd m s n) := by
  rw [sameC_iff] at h ⊢
  unfold addC
  rw [List.map_map, show (unC ∘ mkC) = id from rfl, List.map_id]
  exact h.add ordStr hn s n
theorem sameF_add {L : List Flw} {m : List (Pr × Int)} (h : SameF L m) (hn : (m.map (·.1)).Nodup) (p : Pr) (n : Int) : SameF (addF L p n) (iadd m p n) := by
  rw [sameF_iff] at h ⊢
  unfold addF
  rw [List.map_map, show (unF ∘ mkF) = id from rfl, List.map_id]
  exact h.add ordPr hn p n
theorem sameC_unique {L L' : List Cnt} {m : List (ByteArray × Int)} (h : SameC L m) (k : SameC L' m) : L = L' := by
  rw [sameC_iff] at h k
  have := congrArg (List.map mkC) (h.unique ordStr k)
  rw [List.map_map, List.map_map] at this
  exact (List.map_id L).symm.trans (this.trans (List.map_id L'))
theorem sameF_unique {L L' : List Flw} {m : List (Pr × Int)} (h : SameF L m) (k : SameF L' m) : L = L' := by
  rw [sameF_iff] at h k
  have := congrArg (List.map mkF) (h.unique ordPr k)
  rw [List.map_map, List.map_map] at this
  exact (List.map_id L).symm.trans (this.trans (List.map_id L'))
theorem addK_at {κ : Type} [DecidableEq κ] {lt : κ → κ → Bool} {key : κ} {n : Int} : ∀ {L : List (κ × Int)} {k : Nat}, (∀ j x, j < k → L[j]? = some x → lt x.1 key = true) → k ≤ L.length → (∀ x, L[k]? = some x → lt x.1 key = false) →
    addK lt L key n = L.take k ++ (match L[k]? with | some x => if x.1 = key then (key, x.2 + n) :: L.drop (k + 1) else (key, n) :: L.drop k | none => [(key, n)])
  | [], k, _, hk, _ => by
    have : k = 0 := by simpa using hk
    subst this; rfl
  | c :: t, 0, _, _, h2 => by
    have h3 := h2 c rfl
    rw [addK, if_neg (by rw [h3]; decide)]; rfl
  | c :: t, k + 1, h1, hk, h2 => by
    rw [addK, if_pos (h1 0 c (Nat.succ_pos k) rfl), addK_at (L := t) (k := k) (fun j x hj hx => h1 (j + 1) x (by omega) (by simpa using hx)) (by simpa using hk) (fun x hx => h2 x (by simpa using hx))]
    simp
theorem addC_new {L : List Cnt} {k : Nat} {s : ByteArray} {n : Int} (h1 : ∀ j x, j < k → L[j]? = some x → strLt x.name s = true) (hk : k ≤ L.length) (h2 : ∀ x, L[k]? = some x → strLt x.name s = false ∧ x.name ≠ s) : addC L s n = L.take k ++ [⟨s, n⟩] ++ L.drop k := by
  unfold addC
  rw [addK_at (k := k) (fun j x hj hx => ?_) (by rw [List.length_map]; exact hk) (fun x hx => ?_)]
  · rw [List.getElem?_map]
    cases hL : L[k]? with
    | none =>
      have : L.drop k = [] := List.drop_eq_nil_of_le (List.getElem?_eq_none_iff.1 hL)
      rw [this, Option.map_none]
      simp [← List.map_take, Function.comp_def, mkC, unC]
    | some x =>
      rw [Option.map_some]
      dsimp only
      rw [if_neg (show ¬ (unC x).1 = s from (h2 x hL).2)]
      simp [← List.map_take, ← List.map_drop, Function.comp_def, mkC, unC]
  · rw [List.getElem?_map, Option.map_eq_some_iff] at hx
    obtain ⟨y, hy, rfl⟩ := hx
    exact h1 j y hj hy
  · rw [List.getElem?_map, Option.map_eq_some_iff] at hx
    obtain ⟨y, hy, rfl⟩ := hx
    exact (h2 y hy).1
theorem addC_old {L : List Cnt} {k : Nat} {s : ByteArray} {n : Int} {x : Cnt} (h1 : ∀ j x, j < k → L[j]? = some x → strLt x.name s = true) (hx : L[k]? = some x) (he : x.name = s) : addC L s n = L.take k ++ [⟨s, x.n + n⟩] ++ L.drop (k + 1) := by
  have hk := lt_of_get hx
  unfold addC
  rw [addK_at (k := k) (fun j x hj hx => ?_) (by rw [List.length_map]; omega) (fun y hy => ?_)]
  · rw [List.getElem?_map, hx, Option.map_some]
    dsimp only
    rw [if_pos (show (unC x).1 = s from he)]
    simp [← List.map_take, ← List.map_drop, Function.comp_def, mkC, unC]
  · rw [List.getElem?_map, Option.map_eq_some_iff] at hx
    obtain ⟨y, hy, rfl⟩ := hx
    exact h1 j y hj hy
  · rw [List.getElem?_map, hx] at hy
    cases hy
    show strLt x.name s = false
    rw [he]; exact strLt_irrefl s
theorem addF_new {L : List Flw} {k : Nat} {p : Pr} {n : Int} (h1 : ∀ j x, j < k → L[j]? = some x → prLt (x.src, x.dst) p = true) (hk : k ≤ L.length) (h2 : ∀ x, L[k]? = some x → prLt (x.src, x.dst) p = false ∧ (x.src, x.dst) ≠ p) : addF L p n = L.take k ++ [⟨p.1, p.2, n⟩] ++ L.drop k := by
  unfold addF
  rw [addK_at (k := k) (fun j x hj hx => ?_) (by rw [List.length_map]; exact hk) (fun x hx => ?_)]
  · rw [List.getElem?_map]
    cases hL : L[k]? with
    | none =>
      have : L.drop k = [] := List.drop_eq_nil_of_le (List.getElem?_eq_none_iff.1 hL)
      rw [this, Option.map_none]
      simp [← List.map_take, Function.comp_def, mkF, unF]
    | some x =>
      rw [Option.map_some]
      dsimp only
      rw [if_neg (show ¬ (unF x).1 = p from (h2 x hL).2)]
      simp [← List.map_take, ← List.map_drop, Function.comp_def, mkF, unF]
  · rw [List.getElem?_map, Option.map_eq_some_iff] at hx
    obtain ⟨y, hy, rfl⟩ := hx
    exact h1 j y hj hy
  · rw [List.getElem?_map, Option.map_eq_some_iff] at hx
    obtain ⟨y, hy, rfl⟩ := hx
    exact (h2 y hy).1
theorem addF_old {L : List Flw} {k : Nat} {p : Pr} {n : Int} {x : Flw} (h1 : ∀ j x, j < k → L[j]? = some x → prLt (x.src, x.dst) p = true) (hx : L[k]? = some x) (he : (x.src, x.dst) = p) : addF L p n = L.take k ++ [⟨p.1, p.2, x.n + n⟩] ++ L.drop (k + 1) := by
  have hk := lt_of_get hx
  unfold addF
  rw [addK_at (k := k) (fun j x hj hx => ?_) (by rw [List.length_map]; omega) (fun y hy => ?_)]
  · rw [List.getElem?_map, hx, Option.map_some]
    dsimp only
    rw [if_pos (show (unF x).1 = p from he)]
    simp [← List.map_take, ← List.map_drop, Function.comp_def, mkF, unF]
  · rw [List.getElem?_map, Option.map_eq_some_iff] at hx
    obtain ⟨y, hy, rfl⟩ := hx
    exact h1 j y hj hy
  · rw [List.getElem?_map, hx] at hy
    cases hy
    show prLt (x.src, x.dst) p = false
    rw [he]; exact ordPr.irr p
end Go.Proofs.YtebcjijpdhbcdaaGreat

namespace Go.Proofs.YtebcjijpdhbcdaaGreat
open Go.RowKit Go.Cb Go.En
set_option linter.all false
set_option maxRecDepth 100000

theorem tEl25_LdD : ElT Tryz.prog 25 44 2 24 (.agg #[(.string ByteArray.empty), (.int .i64 0)]) := ⟨Tryz.underlying25, by kernel_rfl, rfl, by decide⟩
theorem tEl26_LdD : ElT Tryz.prog 26 47 3 40 (.agg #[(.string ByteArray.empty), (.string ByteArray.empty), (.int .i64 0)]) := ⟨Tryz.underlying26, by kernel_rfl, rfl, by decide⟩
theorem tFl44_0_LdD : FldT Tryz.prog 44 0 0 = true := by kernel_rfl
theorem tFl44_1_LdD : FldT Tryz.prog 44 1 1 = true := by kernel_rfl
theorem tFl47_0_LdD : FldT Tryz.prog 47 0 0 = true := by kernel_rfl
theorem tFl47_1_LdD : FldT Tryz.prog 47 1 1 = true := by kernel_rfl
theorem tFl47_2_LdD : FldT Tryz.prog 47 2 2 = true := by kernel_rfl
theorem tNa3_LdD : NoAgg Tryz.prog 3 = true := by kernel_rfl
theorem tNa9_LdD : NoAgg Tryz.prog 9 = true := by kernel_rfl
theorem tSl25_LdD : SlT Tryz.prog 25 44 2 = true := by kernel_rfl
theorem tSl26_LdD : SlT Tryz.prog 26 47 3 = true := by kernel_rfl
theorem tSt44_LdD : stInfo Tryz.prog 44 = some ((.agg #[(.string ByteArray.empty), (.int .i64 0)]), ([0, 1] : List Nat).map fun o => (o, 1)) := by kernel_rfl
theorem tSt47_LdD : stInfo Tryz.prog 47 = some ((.agg #[(.string ByteArray.empty), (.string ByteArray.empty), (.int .i64 0)]), ([0, 1, 2] : List Nat).map fun o => (o, 1)) := by kernel_rfl

theorem flat_take {α β : Type} {f : α → List β} {m : Nat} (hf : ∀ x, (f x).length = m) : ∀ (L : List α) (k : Nat), (L.flatMap f).take (k * m) = (L.take k).flatMap f
  | [], k => by simp
  | x :: L, 0 => by simp
  | x :: L, k + 1 => by
    rw [List.take_succ_cons, List.flatMap_cons, List.flatMap_cons, ← flat_take hf L k, List.take_append, List.take_of_length_le (by rw [hf, Nat.add_mul]; omega), hf, show (k + 1) * m - m = k * m by rw [Nat.add_mul]; omega]
theorem flat_dropk {α β : Type} {f : α → List β} {m : Nat} (hf : ∀ x, (f x).length = m) : ∀ (L : List α) (k : Nat), (L.flatMap f).drop (k * m) = (L.drop k).flatMap f
  | [], k => by simp
  | x :: L, 0 => by simp
  | x :: L, k + 1 => by
    rw [List.drop_succ_cons, List.flatMap_cons, ← flat_dropk hf L k, List.drop_append, List.drop_of_length_le (by rw [hf, Nat.add_mul]; omega), hf, show (k + 1) * m - m = k * m by rw [Nat.add_mul]; omega, List.nil_append]
theorem flat_head {α β : Type} {f : α → List β} {m k : Nat} (hf : ∀ x, (f x).length = m) (L : List α) : ((L.flatMap f).drop (0 * m)).take ((k - 0) * m) = (L.take k).flatMap f := by
  rw [Nat.zero_mul, List.drop_zero, Nat.sub_zero, flat_take hf]
theorem flat_tail {α β : Type} {f : α → List β} {m k : Nat} (hf : ∀ x, (f x).length = m) (L : List α) : ((L.flatMap f).drop (k * m)).take ((L.length - k) * m) = (L.drop k).flatMap f := by
  rw [flat_dropk hf, List.take_of_length_le (by rw [flat_len hf, List.length_drop]; omega)]
theorem cCnt_one (L : List Cnt) : (L.flatMap cCnt).all En.one = true := by rw [List.all_flatMap, List.all_eq_true]; intro x _; rfl
theorem cFlw_one (L : List Flw) : (L.flatMap cFlw).all En.one = true := by rw [List.all_flatMap, List.all_eq_true]; intro x _; rfl
set_option maxHeartbeats 1000000 in
theorem r17add_e (L : List Cnt) (s : ByteArray) (n : Int) (hl : L.length ≤ 1000000) (hb : ∀ x ∈ L, 0 ≤ x.n + n ∧ x.n + n ≤ 4611686018427387904) : AF Tryz.prog 50 [pCnts L, pStr s, pInt n] (· = .own 44 2 (addC L s n).length ((addC L s n).flatMap cCnt)) := by
  have f5 : (L.flatMap cCnt).length = L.length * 2 := flat_len cCnt_len L
  refine AF.of_body 69 Tryz.func50 rfl Tryz.ntmps50 (Nat.le_of_ble_eq_true rfl) ?_
  intro w0 M0 vs hl hv
  obtain ⟨v0, v1, v2, rfl⟩ := len3 hl
  obtain rfl := hv 1 _ _ rfl rfl
  obtain rfl := hv 2 _ _ rfl rfl
  clear hl hv
  refine nav ?_
  (refine aC_region ?_
    <;> refine xL 6 q_assign ?_
    <;> refine aL_end (nav ?_) <;> try dsimp only)
  (refine aC_region ?_
    <;> refine xL 7 q_assign ?_
    <;> refine aL_end (nav ?_) <;> try dsimp only)
  refine aC_loop (ι := { k : Nat // k ≤ L.length ∧ ∀ j x, j < k → L[j]? = some x → strLt x.name s = true }) (fun k => ⟨[(0, _, _), (1, _, _), (2, _, _), (7, .int .i64 k.1, pInt k.1)], []⟩) (fun k => L.length - k.1) ⟨0, Nat.zero_le _, fun j x h => absurd h (Nat.not_lt_zero j)⟩ (fun a w H => H.weaken ⟨rfl, rfl, rfl, rfl, trivial⟩ trivial) ?_
  rintro ⟨k, hk, hkp⟩
  dsimp only
  obtain ⟨x, hx0⟩ : ∃ x, x = L[k]?.getD ⟨s, 0⟩ := ⟨_, rfl⟩
  have hd : k < L.length → L[k]? = some x := fun h => by obtain ⟨y, hy⟩ := get_some h; rw [hx0, hy]; rfl
  have e1 : k < L.length → (L.flatMap cCnt)[k * 2 + 0]? = some (pStr x.name) := fun h => by rw [flat_at cCnt_len (hd h) (j := 0) (by decide)]; rfl
  have e2 : k < L.length → (L.flatMap cCnt)[k * 2 + 1]? = some (pInt x.n) := fun h => by rw [flat_at cCnt_len (hd h) (j := 1) (by decide)]; rfl
  clear hx0
  refine nav ?_
  (refine aC_region ?_
    <;> refine xL 9 q_move ?_
    <;> refine xL 10 q_move ?_
    <;> refine xL 11 (q_len tSl25_LdD) ?_
    <;> refine xL 12 q_lss ?_
    <;> refine xL 13 q_move ?_
    <;> (refine bLd 13 (fun hb13 => ?_) (fun hb13 => ?_) <;> (first | refine kL 14 ?_ | refine xL 14 q_move ?_))
    <;> (first | refine kL 15 ?_ | refine xL 15 q_move ?_)
    <;> (first | refine kL 16 ?_ | refine xL 16 (q_idxN tSl25_LdD) ?_)
    <;> (first | refine kL 17 ?_ | refine xL 17 (q_fld tFl44_0_LdD) ?_)
    <;> (first | refine kL 18 ?_ | (refine yL 18 (q_ld tNa9_LdD (hp := e1 (by omega))) fun v18 hv18 => ?_; cases hv18))
    <;> (first | refine kL 19 ?_ | refine xL 19 q_move ?_)
    <;> (first | refine kL 20 ?_ | refine xL 20 q_slss ?_)
    <;> refine xL 21 q_pick ?_
    <;> refine aL_end (nav ?_) <;> try dsimp only) <;> (
   first | refine cCd (fun hb21 => ?_) (fun hb21 => ?_) | refine cC (fun hb21 => ?_) (fun hb21 => ?_)
   · first
     | exact Bool.noConfusion hb21
     | (
      refine nav ?_
      (refine aC_region ?_
        <;> refine xL 22 q_move ?_
        <;> refine xL 23 q_add ?_
        <;> refine xL 7 q_assign ?_
        <;> refine aL_end (nav ?_) <;> try dsimp only)
      refine aN_again (
        ⟨k + 1, by omega, fun j y hj hy => by
          by_cases e : j = k
          · subst e; rw [hd (by omega)] at hy; cases hy; exact hb21
          · exact hkp j y (by omega) hy⟩
        ) (by dsimp only; omega) ⟨rfl, rfl, rfl, rfl, trivial⟩ trivial)
   · first
     | exact Bool.noConfusion hb21
     | (
      refine nav ?_
      have hnl : ∀ y, L[k]? = some y → strLt y.name s = false := fun y hy => by
        have hlt := lt_of_get hy
        rw [hd hlt] at hy; cases hy
        first
          | exact hb21
          | (exfalso; omega)
      have f1 : (((L.flatMap cCnt).drop (0 * 2)).take ((k - 0) * 2)).length = (k - 0) * 2 := by rw [flat_head cCnt_len, flat_len cCnt_len, List.length_take]; omega
      have f2 : (((L.flatMap cCnt).drop (0 * 2)).take ((k - 0) * 2)).all En.one = true := by rw [flat_head cCnt_len]; exact cCnt_one _
      (refine aC_region ?_
        <;> refine s_lit0 24 tEl25_LdD fun h24 ho24 => ?_
        <;> refine xL 25 q_move ?_
        <;> refine xL 26 q_move ?_
        <;> refine xL 27 (y_slc_shr (i := 0) (j := k) tSl25_LdD rfl rfl rfl rfl (Nat.zero_le _) hk f5) ?_
        <;> refine s_apps 24 28 tEl25_LdD (fun h28 ho28 => ?_) f1 f2
        <;> refine xL 8 q_assign ?_
        <;> refine aL_end (nav ?_) <;> try dsimp only)
      (refine aC_region ?_
        <;> refine xL 29 q_move ?_
        <;> refine xL 30 q_move ?_
        <;> refine xL 31 (q_len tSl25_LdD) ?_
        <;> refine xL 32 q_lss ?_
        <;> refine xL 33 q_move ?_
        <;> (refine bLd 33 (fun hb33 => ?_) (fun hb33 => ?_) <;> (first | refine kL 34 ?_ | refine xL 34 q_move ?_))
        <;> (first | refine kL 35 ?_ | refine xL 35 q_move ?_)
        <;> (first | refine kL 36 ?_ | refine xL 36 (q_idxN tSl25_LdD) ?_)
        <;> (first | refine kL 37 ?_ | refine xL 37 (q_fld tFl44_0_LdD) ?_)
        <;> (first | refine kL 38 ?_ | (refine yL 38 (q_ld tNa9_LdD (hp := e1 (by omega))) fun v38 hv38 => ?_; cases hv38))
        <;> (first | refine kL 39 ?_ | refine xL 39 q_move ?_)
        <;> (first | refine kL 40 ?_ | refine xL 40 q_seql ?_)
        <;> refine xL 41 q_pick ?_
        <;> refine aL_end (nav ?_) <;> try dsimp only) <;> (
       first | refine cCd (fun hb41 => ?_) (fun hb41 => ?_) | refine cC (fun hb41 => ?_) (fun hb41 => ?_)
       · first
         | exact Bool.noConfusion hb41
         | (
          have hkl : k < L.length := by omega
          have hx := hd hkl
          have hbx := hb x (List.mem_of_getElem? hx)
          have hxe : x.name = s := strEq_iff.1 hb41
          have e3 := e2 hkl
          have f3 : (((L.flatMap cCnt).drop ((k + 1) * 2)).take ((L.length - (k + 1)) * 2)).length = (L.length - (k + 1)) * 2 := by rw [flat_tail cCnt_len, flat_len cCnt_len, List.length_drop]
          have f4 : (((L.flatMap cCnt).drop ((k + 1) * 2)).take ((L.length - (k + 1)) * 2)).all En.one = true := by rw [flat_tail cCnt_len]; exact cCnt_one _
          have r1 := addC_old (n := n) hkp hx hxe
          refine nav ?_
          (refine aC_draw (fun i => ([] : List Nat).elem i) [] (by kernel_rfl) ?_
            <;> refine xD 0 42 rfl q_move ?_
            <;> refine xD 1 43 rfl q_move ?_
            <;> refine xD 2 44 rfl q_move ?_
            <;> refine xD 3 45 rfl q_move ?_
            <;> refine xD 4 46 rfl (q_idxN tSl25_LdD) ?_
            <;> refine xD 5 47 rfl (q_fld tFl44_1_LdD) ?_
            <;> (refine yD 6 48 rfl (q_ld tNa3_LdD) fun v48 hv48 => ?_; cases hv48)
            <;> refine xD 7 49 rfl q_move ?_
            <;> refine xD 8 50 rfl q_add ?_
            <;> refine xD 9 51 rfl (q_build tSt44_LdD) ?_
            <;> refine xD 12 54 rfl q_move ?_
            <;> refine xD 13 55 rfl q_move ?_
            <;> refine xD 14 56 rfl q_add ?_
            <;> refine xD 15 57 rfl (y_slc_shr (i := k + 1) (j := L.length) tSl25_LdD rfl rfl rfl rfl (by omega) (Nat.le_refl _) f5) ?_
            <;> (refine aD_one 10 (by kernel_rfl) ?_)
            <;> (refine aW_run rfl fun w9 M9 N9 DQ back => ?_)
            <;> refine s_lit1a 52 tEl25_LdD fun h52 ho52 => ?_
            <;> refine aL_end (back _ (nrm ?_))
            <;> (refine aD_one 11 (by kernel_rfl) ?_)
            <;> (refine aW_run rfl fun w9 M9 N9 DQ back => ?_)
            <;> refine s_app 28 52 53 tEl25_LdD fun h53 ho53 => ?_
            <;> refine aL_end (back _ (nrm ?_))
            <;> (refine aD_one 16 (by kernel_rfl) ?_)
            <;> (refine aW_run rfl fun w9 M9 N9 DQ back => ?_)
            <;> refine s_apps 53 58 tEl25_LdD (fun h58 ho58 => ?_) f3 f4
            <;> refine aL_end (back _ (nrm ?_))
            <;> refine xE 17 6 rfl q_assign ?_
            <;> refine aD_end (by kernel_rfl) (nav ?_)
            <;> try dsimp only)
          refine ret_own 58 (Tryz.results50) rfl rfl ?_
          rw [r1, flat_head cCnt_len, flat_tail cCnt_len]
          show PV.own _ _ _ _ = PV.own _ _ _ _
          congr 1
          · simp; omega
          · simp [List.flatMap_append, cCnt]; rfl)
       · first
         | exact Bool.noConfusion hb41
         | (
          have hne : ∀ y, L[k]? = some y → strLt y.name s = false ∧ y.name ≠ s := fun y hy => ⟨hnl y hy, fun he => by
            have hlt := lt_of_get hy
            rw [hd hlt] at hy; cases hy
            first
              | exact Bool.noConfusion ((strEq_iff.2 he).symm.trans (show strEq x.name s = false from hb41))
              | (exfalso; omega)⟩
          have f3 : (((L.flatMap cCnt).drop (k * 2)).take ((L.length - k) * 2)).length = (L.length - k) * 2 := by rw [flat_tail cCnt_len, flat_len cCnt_len, List.length_drop]
          have f4 : (((L.flatMap cCnt).drop (k * 2)).take ((L.length - k) * 2)).all En.one = true := by rw [flat_tail cCnt_len]; exact cCnt_one _
          have r1 := addC_new (n := n) hkp hk hne
          refine nav ?_
          (refine aC_draw (fun i => ([] : List Nat).elem i) [] (by kernel_rfl) ?_
            <;> refine xD 0 59 rfl q_move ?_
            <;> refine xD 1 60 rfl q_move ?_
            <;> refine xD 2 61 rfl q_move ?_
            <;> refine xD 3 62 rfl (q_build tSt44_LdD) ?_
            <;> refine xD 6 65 rfl q_move ?_
            <;> refine xD 7 66 rfl q_move ?_
            <;> refine xD 8 67 rfl (y_slc_shr (i := k) (j := L.length) tSl25_LdD rfl rfl rfl rfl hk (Nat.le_refl _) f5) ?_
            <;> (refine aD_one 4 (by kernel_rfl) ?_)
            <;> (refine aW_run rfl fun w9 M9 N9 DQ back => ?_)
            <;> refine s_lit1a 63 tEl25_LdD fun h63 ho63 => ?_
            <;> refine aL_end (back _ (nrm ?_))
            <;> (refine aD_one 5 (by kernel_rfl) ?_)
            <;> (refine aW_run rfl fun w9 M9 N9 DQ back => ?_)
            <;> refine s_app 28 63 64 tEl25_LdD fun h64 ho64 => ?_
            <;> refine aL_end (back _ (nrm ?_))
            <;> (refine aD_one 9 (by kernel_rfl) ?_)
            <;> (refine aW_run rfl fun w9 M9 N9 DQ back => ?_)
            <;> refine s_apps 64 68 tEl25_LdD (fun h68 ho68 => ?_) f3 f4
            <;> refine aL_end (back _ (nrm ?_))
            <;> refine xE 10 6 rfl q_assign ?_
            <;> refine aD_end (by kernel_rfl) (nav ?_)
            <;> try dsimp only)
          refine ret_own 68 (Tryz.results50) rfl rfl ?_
          rw [r1, flat_head cCnt_len, flat_tail cCnt_len]
          show PV.own _ _ _ _ = PV.own _ _ _ _
          congr 1
          · simp; omega
          · simp [List.flatMap_append, cCnt]; rfl))))
theorem prLt_src {x : Flw} {p : Pr} (h : strLt x.src p.1 = true) : prLt (x.src, x.dst) p = true := decide_eq_true (flwCmp_neg.2 (.inl h))
theorem prLt_dst {x : Flw} {p : Pr} (h : x.src = p.1) (k : strLt x.dst p.2 = true) : prLt (x.src, x.dst) p = true := decide_eq_true (flwCmp_neg.2 (.inr ⟨h, k⟩))
theorem prLt_not {x : Flw} {p : Pr} (h : strLt x.src p.1 = false) (k : x.src = p.1 → strLt x.dst p.2 = false) : prLt (x.src, x.dst) p = false := decide_eq_false fun hh => by
  rcases flwCmp_neg.1 hh with h1 | ⟨h1, h2⟩
  · have h3 : strLt x.src p.1 = true := h1
    rw [h] at h3; exact Bool.noConfusion h3
  · have h3 : strLt x.dst p.2 = true := h2
    rw [k h1] at h3; exact Bool.noConfusion h3
set_option maxHeartbeats 1000000 in
theorem r17follow_e (L : List Flw) (s t : ByteArray) (n : Int) (hl : L.length ≤ 1000000) (hb : ∀ x ∈ L, 0 ≤ x.n + n ∧ x.n + n ≤ 4611686018427387904) : AF Tryz.prog 51 [pFlws L, pStr s, pStr t, pInt n] (· = .own 47 3 (addF L (s, t) n).length ((addF L (s, t) n).flatMap cFlw)) := by
  have f5 : (L.flatMap cFlw).length = L.length * 3 := flat_len cFlw_len L
  refine AF.of_body 100 Tryz.func51 rfl Tryz.ntmps51 (Nat.le_of_ble_eq_true rfl) ?_
  intro w0 M0 vs hl hv
  obtain ⟨v0, v1, v2, v3, rfl⟩ := len4 hl
  obtain rfl := hv 1 _ _ rfl rfl
  obtain rfl := hv 2 _ _ rfl rfl
  obtain rfl := hv 3 _ _ rfl rfl
  clear hl hv
  refine nav ?_
  (refine aC_region ?_
    <;> refine xL 8 q_assign ?_
    <;> refine aL_end (nav ?_) <;> try dsimp only)
  (refine aC_region ?_
    <;> refine xL 9 q_assign ?_
    <;> refine aL_end (nav ?_) <;> try dsimp only)
  refine aC_loop (ι := { k : Nat // k ≤ L.length ∧ ∀ j x, j < k → L[j]? = some x → prLt (x.src, x.dst) (s, t) = true }) (fun k => ⟨[(0, _, _), (1, _, _), (2, _, _), (3, _, _), (9, .int .i64 k.1, pInt k.1)], []⟩) (fun k => L.length - k.1) ⟨0, Nat.zero_le _, fun j x h => absurd h (Nat.not_lt_zero j)⟩ (fun a w H => H.weaken ⟨rfl, rfl, rfl, rfl, rfl, trivial⟩ trivial) ?_
  rintro ⟨k, hk, hkp⟩
  dsimp only
  obtain ⟨x, hx0⟩ : ∃ x, x = L[k]?.getD ⟨s, t, 0⟩ := ⟨_, rfl⟩
  have hd : k < L.length → L[k]? = some x := fun h => by obtain ⟨y, hy⟩ := get_some h; rw [hx0, hy]; rfl
  have e0 : k < L.length → (L.flatMap cFlw)[k * 3 + 0]? = some (pStr x.src) := fun h => by rw [flat_at cFlw_len (hd h) (j := 0) (by decide)]; rfl
  have e1 : k < L.length → (L.flatMap cFlw)[k * 3 + 1]? = some (pStr x.dst) := fun h => by rw [flat_at cFlw_len (hd h) (j := 1) (by decide)]; rfl
  have e2 : k < L.length → (L.flatMap cFlw)[k * 3 + 2]? = some (pInt x.n) := fun h => by rw [flat_at cFlw_len (hd h) (j := 2) (by decide)]; rfl
  clear hx0
  refine nav ?_
  (refine aC_region ?_
    <;> refine xL 11 q_move ?_
    <;> refine xL 12 q_move ?_
    <;> refine xL 13 (q_len tSl26_LdD) ?_
    <;> refine xL 14 q_lss ?_
    <;> refine xL 15 q_move ?_
    <;> (refine bLd 15 (fun hb15 => ?_) (fun hb15 => ?_) <;> (first | refine kL 16 ?_ | refine xL 16 q_move ?_))
    <;> (first | refine kL 17 ?_ | refine xL 17 q_move ?_)
    <;> (first | refine kL 18 ?_ | refine xL 18 (q_idxN tSl26_LdD) ?_)
    <;> (first | refine kL 19 ?_ | refine xL 19 (q_fld tFl47_0_LdD) ?_)
    <;> (first | refine kL 20 ?_ | (refine yL 20 (q_ld tNa9_LdD (hp := e0 (by omega))) fun v20 hv20 => ?_; cases hv20))
    <;> (first | refine kL 21 ?_ | refine xL 21 q_move ?_)
    <;> (first | refine kL 22 ?_ | refine xL 22 q_slss ?_)
    <;> (first | refine kL 23 ?_ | refine xL 23 q_move ?_)
    <;> (first | refine kL 24 ?_ | (refine bL 23 (fun hb23 => ?_) (fun hb23 => ?_) <;> (first | refine kL 24 ?_ | refine xL 24 q_move ?_)))
    <;> (first | refine kL 25 ?_ | refine xL 25 q_move ?_)
    <;> (first | refine kL 26 ?_ | refine xL 26 (q_idxN tSl26_LdD) ?_)
    <;> (first | refine kL 27 ?_ | refine xL 27 (q_fld tFl47_0_LdD) ?_)
    <;> (first | refine kL 28 ?_ | (refine yL 28 (q_ld tNa9_LdD (hp := e0 (by omega))) fun v28 hv28 => ?_; cases hv28))
    <;> (first | refine kL 29 ?_ | refine xL 29 q_move ?_)
    <;> (first | refine kL 30 ?_ | refine xL 30 q_seql ?_)
    <;> (first | refine kL 31 ?_ | refine xL 31 q_move ?_)
    <;> (first | refine kL 32 ?_ | (refine bL 31 (fun hb31 => ?_) (fun hb31 => ?_) <;> (first | refine kL 32 ?_ | refine xL 32 q_move ?_)))
    <;> (first | refine kL 33 ?_ | refine xL 33 q_move ?_)
    <;> (first | refine kL 34 ?_ | refine xL 34 (q_idxN tSl26_LdD) ?_)
    <;> (first | refine kL 35 ?_ | refine xL 35 (q_fld tFl47_1_LdD) ?_)
    <;> (first | refine kL 36 ?_ | (refine yL 36 (q_ld tNa9_LdD (hp := e1 (by omega))) fun v36 hv36 => ?_; cases hv36))
    <;> (first | refine kL 37 ?_ | refine xL 37 q_move ?_)
    <;> (first | refine kL 38 ?_ | refine xL 38 q_slss ?_)
    <;> (first | refine kL 39 ?_ | refine xL 39 q_pick ?_)
    <;> (first | refine kL 40 ?_ | refine xL 40 q_pick ?_)
    <;> refine xL 41 q_pick ?_
    <;> refine aL_end (nav ?_) <;> try dsimp only) <;> (
   first | refine cCd (fun hb41 => ?_) (fun hb41 => ?_) | refine cC (fun hb41 => ?_) (fun hb41 => ?_)
   · first
     | exact Bool.noConfusion hb41
     | (
      refine nav ?_
      (refine aC_region ?_
        <;> refine xL 42 q_move ?_
        <;> refine xL 43 q_add ?_
        <;> refine xL 9 q_assign ?_
        <;> refine aL_end (nav ?_) <;> try dsimp only)
      refine aN_again (
        ⟨k + 1, by omega, fun j y hj hy => by
          by_cases e : j = k
          · subst e; rw [hd (by omega)] at hy; cases hy
            first
              | exact prLt_src (p := (s, t)) (by assumption)
              | exact prLt_dst (p := (s, t)) (strEq_iff.1 (by assumption)) (by assumption)
          · exact hkp j y (by omega) hy⟩
        ) (by dsimp only; omega) ⟨rfl, rfl, rfl, rfl, rfl, trivial⟩ trivial)
   · first
     | exact Bool.noConfusion hb41
     | (
      refine nav ?_
      have hnl : ∀ y, L[k]? = some y → prLt (y.src, y.dst) (s, t) = false := fun y hy => by
        have hlt := lt_of_get hy
        rw [hd hlt] at hy; cases hy
        first
          | exact prLt_not (p := (s, t)) (by assumption) (fun he => Bool.noConfusion ((strEq_iff.2 he).symm.trans (show strEq x.src s = false by assumption)))
          | exact prLt_not (p := (s, t)) (by assumption) (fun _ => by assumption)
          | (exfalso; omega)
      have f1 : (((L.flatMap cFlw).drop (0 * 3)).take ((k - 0) * 3)).length = (k - 0) * 3 := by rw [flat_head cFlw_len, flat_len cFlw_len, List.length_take]; omega
      have f2 : (((L.flatMap cFlw).drop (0 * 3)).take ((k - 0) * 3)).all En.one = true := by rw [flat_head cFlw_len]; exact cFlw_one _
      (refine aC_region ?_
        <;> refine s_lit0 44 tEl26_LdD fun h44 ho44 => ?_
        <;> refine xL 45 q_move ?_
        <;> refine xL 46 q_move ?_
        <;> refine xL 47 (y_slc_shr (i := 0) (j := k) tSl26_LdD rfl rfl rfl rfl (Nat.zero_le _) hk f5) ?_
        <;> refine s_apps 44 48 tEl26_LdD (fun h48 ho48 => ?_) f1 f2
        <;> refine xL 10 q_assign ?_
        <;> refine aL_end (nav ?_) <;> try dsimp only)
      (refine aC_region ?_
        <;> refine xL 49 q_move ?_
        <;> refine xL 50 q_move ?_
        <;> refine xL 51 (q_len tSl26_LdD) ?_
        <;> refine xL 52 q_lss ?_
        <;> refine xL 53 q_move ?_
        <;> (refine bLd 53 (fun hb53 => ?_) (fun hb53 => ?_) <;> (first | refine kL 54 ?_ | refine xL 54 q_move ?_))
        <;> (first | refine kL 55 ?_ | refine xL 55 q_move ?_)
        <;> (first | refine kL 56 ?_ | refine xL 56 (q_idxN tSl26_LdD) ?_)
        <;> (first | refine kL 57 ?_ | refine xL 57 (q_fld tFl47_0_LdD) ?_)
        <;> (first | refine kL 58 ?_ | (refine yL 58 (q_ld tNa9_LdD (hp := e0 (by omega))) fun v58 hv58 => ?_; cases hv58))
        <;> (first | refine kL 59 ?_ | refine xL 59 q_move ?_)
        <;> (first | refine kL 60 ?_ | refine xL 60 q_seql ?_)
        <;> refine xL 61 q_pick ?_
        <;> refine xL 62 q_move ?_
        <;> (first | refine kL 63 ?_ | (refine bL 62 (fun hb62 => ?_) (fun hb62 => ?_) <;> (first | refine kL 63 ?_ | refine xL 63 q_move ?_)))
        <;> (first | refine kL 64 ?_ | refine xL 64 q_move ?_)
        <;> (first | refine kL 65 ?_ | refine xL 65 (q_idxN tSl26_LdD) ?_)
        <;> (first | refine kL 66 ?_ | refine xL 66 (q_fld tFl47_1_LdD) ?_)
        <;> (first | refine kL 67 ?_ | (refine yL 67 (q_ld tNa9_LdD (hp := e1 (by omega))) fun v67 hv67 => ?_; cases hv67))
        <;> (first | refine kL 68 ?_ | refine xL 68 q_move ?_)
        <;> (first | refine kL 69 ?_ | refine xL 69 q_seql ?_)
        <;> refine xL 70 q_pick ?_
        <;> refine aL_end (nav ?_) <;> try dsimp only) <;> (
       first | refine cCd (fun hb70 => ?_) (fun hb70 => ?_) | refine cC (fun hb70 => ?_) (fun hb70 => ?_)
       · first
         | exact Bool.noConfusion hb70
         | (
          have hkl : k < L.length := by omega
          have hx := hd hkl
          have hbx := hb x (List.mem_of_getElem? hx)
          have hxe : (x.src, x.dst) = (s, t) := Prod.ext (strEq_iff.1 (by assumption)) (strEq_iff.1 (by assumption))
          have e3 := e2 hkl
          have f3 : (((L.flatMap cFlw).drop ((k + 1) * 3)).take ((L.length - (k + 1)) * 3)).length = (L.length - (k + 1)) * 3 := by rw [flat_tail cFlw_len, flat_len cFlw_len, List.length_drop]
          have f4 : (((L.flatMap cFlw).drop ((k + 1) * 3)).take ((L.length - (k + 1)) * 3)).all En.one = true := by rw [flat_tail cFlw_len]; exact cFlw_one _
          have r1 := addF_old (n := n) hkp hx hxe
          refine nav ?_
          (refine aC_draw (fun i => ([] : List Nat).elem i) [] (by kernel_rfl) ?_
            <;> refine xD 0 71 rfl q_move ?_
            <;> refine xD 1 72 rfl q_move ?_
            <;> refine xD 2 73 rfl q_move ?_
            <;> refine xD 3 74 rfl q_move ?_
            <;> refine xD 4 75 rfl q_move ?_
            <;> refine xD 5 76 rfl (q_idxN tSl26_LdD) ?_
            <;> refine xD 6 77 rfl (q_fld tFl47_2_LdD) ?_
            <;> (refine yD 7 78 rfl (q_ld tNa3_LdD) fun v78 hv78 => ?_; cases hv78)
            <;> refine xD 8 79 rfl q_move ?_
            <;> refine xD 9 80 rfl q_add ?_
            <;> refine xD 10 81 rfl (q_build tSt47_LdD) ?_
            <;> refine xD 13 84 rfl q_move ?_
            <;> refine xD 14 85 rfl q_move ?_
            <;> refine xD 15 86 rfl q_add ?_
            <;> refine xD 16 87 rfl (y_slc_shr (i := k + 1) (j := L.length) tSl26_LdD rfl rfl rfl rfl (by omega) (Nat.le_refl _) f5) ?_
            <;> (refine aD_one 11 (by kernel_rfl) ?_)
            <;> (refine aW_run rfl fun w9 M9 N9 DQ back => ?_)
            <;> refine s_lit1a 82 tEl26_LdD fun h82 ho82 => ?_
            <;> refine aL_end (back _ (nrm ?_))
            <;> (refine aD_one 12 (by kernel_rfl) ?_)
            <;> (refine aW_run rfl fun w9 M9 N9 DQ back => ?_)
            <;> refine s_app 48 82 83 tEl26_LdD fun h83 ho83 => ?_
            <;> refine aL_end (back _ (nrm ?_))
            <;> (refine aD_one 17 (by kernel_rfl) ?_)
            <;> (refine aW_run rfl fun w9 M9 N9 DQ back => ?_)
            <;> refine s_apps 83 88 tEl26_LdD (fun h88 ho88 => ?_) f3 f4
            <;> refine aL_end (back _ (nrm ?_))
            <;> refine xE 18 8 rfl q_assign ?_
            <;> refine aD_end (by kernel_rfl) (nav ?_)
            <;> try dsimp only)
          refine ret_own 88 (Tryz.results51) rfl rfl ?_
          rw [r1, flat_head cFlw_len, flat_tail cFlw_len]
          show PV.own _ _ _ _ = PV.own _ _ _ _
          congr 1
          · simp; omega
          · simp [List.flatMap_append, cFlw]; rfl)
       · first
         | exact Bool.noConfusion hb70
         | (
          have hne : ∀ y, L[k]? = some y → prLt (y.src, y.dst) (s, t) = false ∧ (y.src, y.dst) ≠ (s, t) := fun y hy => ⟨hnl y hy, fun he => by
            have hlt := lt_of_get hy
            rw [hd hlt] at hy; cases hy
            have he1 := (Prod.mk.inj he).1
            have he2 := (Prod.mk.inj he).2
            first
              | exact Bool.noConfusion ((strEq_iff.2 he1).symm.trans (show strEq x.src s = false by assumption))
              | exact Bool.noConfusion ((strEq_iff.2 he2).symm.trans (show strEq x.dst t = false by assumption))
              | (exfalso; omega)⟩
          have f3 : (((L.flatMap cFlw).drop (k * 3)).take ((L.length - k) * 3)).length = (L.length - k) * 3 := by rw [flat_tail cFlw_len, flat_len cFlw_len, List.length_drop]
          have f4 : (((L.flatMap cFlw).drop (k * 3)).take ((L.length - k) * 3)).all En.one = true := by rw [flat_tail cFlw_len]; exact cFlw_one _
          have r1 := addF_new (n := n) hkp hk hne
          refine nav ?_
          (refine aC_draw (fun i => ([] : List Nat).elem i) [] (by kernel_rfl) ?_
            <;> refine xD 0 89 rfl q_move ?_
            <;> refine xD 1 90 rfl q_move ?_
            <;> refine xD 2 91 rfl q_move ?_
            <;> refine xD 3 92 rfl q_move ?_
            <;> refine xD 4 93 rfl (q_build tSt47_LdD) ?_
            <;> refine xD 7 96 rfl q_move ?_
            <;> refine xD 8 97 rfl q_move ?_
            <;> refine xD 9 98 rfl (y_slc_shr (i := k) (j := L.length) tSl26_LdD rfl rfl rfl rfl hk (Nat.le_refl _) f5) ?_
            <;> (refine aD_one 5 (by kernel_rfl) ?_)
            <;> (refine aW_run rfl fun w9 M9 N9 DQ back => ?_)
            <;> refine s_lit1a 94 tEl26_LdD fun h94 ho94 => ?_
            <;> refine aL_end (back _ (nrm ?_))
            <;> (refine aD_one 6 (by kernel_rfl) ?_)
            <;> (refine aW_run rfl fun w9 M9 N9 DQ back => ?_)
            <;> refine s_app 48 94 95 tEl26_LdD fun h95 ho95 => ?_
            <;> refine aL_end (back _ (nrm ?_))
            <;> (refine aD_one 10 (by kernel_rfl) ?_)
            <;> (refine aW_run rfl fun w9 M9 N9 DQ back => ?_)
            <;> refine s_apps 95 99 tEl26_LdD (fun h99 ho99 => ?_) f3 f4
            <;> refine aL_end (back _ (nrm ?_))
            <;> refine xE 11 8 rfl q_assign ?_
            <;> refine aD_end (by kernel_rfl) (nav ?_)
            <;> try dsimp only)
          refine ret_own 99 (Tryz.results51) rfl rfl ?_
          rw [r1, flat_head cFlw_len, flat_tail cFlw_len]
          show PV.own _ _ _ _ = PV.own _ _ _ _
          congr 1
          · simp; omega
          · simp [List.flatMap_append, cFlw]; rfl))))
end Go.Proofs.YtebcjijpdhbcdaaGreat

namespace Go.Proofs.YtebcjijpdhbcdaaGreat
open Go.RowKit Go.Cb Go.En
set_option linter.all false
set_option maxRecDepth 100000

structure MidG (st : M4) (x : Var) (j : Nat) (g : Dfg) : Prop where
  a : SameC g.acts (midA st x j)
  s : SameC g.starts (if j = 0 then st.s else (mk1 st x).s)
  f : SameC g.ends (if j = x.acts.length then (mk1 st x).f else st.f)
  q : SameF g.follows (midQ st x j)
theorem mk1_s {st : M4} {x : Var} {s : ByteArray} (hs : x.acts[0]? = some s) : (mk1 st x).s = iadd st.s s x.count := by
  unfold mk1
  cases hc : x.acts with
  | nil => rw [hc] at hs; simp at hs
  | cons z t => rw [hc] at hs; simp at hs; subst hs; rfl
theorem mk1_f {st : M4} {x : Var} {j : Nat} {s : ByteArray} (hs : x.acts[j]? = some s) (hj : j + 1 = x.acts.length) : (mk1 st x).f = iadd st.f s x.count := by
  unfold mk1
  rw [List.getLast?_eq_getElem?, show x.acts.length - 1 = j by omega, hs]
theorem MidG.start {st : M4} {x : Var} {g : Dfg} (h : SameG g st) : MidG st x 0 g := by
  refine ⟨h.1, by rw [if_pos rfl]; exact h.2.1, ?_, h.2.2.2⟩
  split
  · rename_i h0
    have h1 : (mk1 st x).f = st.f := by unfold mk1; rw [List.eq_nil_of_length_eq_zero h0.symm]; rfl
    rw [h1]; exact h.2.2.1
  · exact h.2.2.1
theorem MidG.step {st : M4} {x : Var} {j b : Nat} {g : Dfg} {s : ByteArray} (h : MidG st x j g) (hK : KOk st b) (hxo : okVar x = true) (hs : x.acts[j]? = some s) {S' F' : List Cnt} {Q' : List Flw}
    (hS : (j = 0 ∧ S' = addC g.starts s x.count) ∨ (j ≠ 0 ∧ S' = g.starts)) (hQ : (j = 0 ∧ Q' = g.follows) ∨ (∃ (j' : Nat) (a : ByteArray), j = j' + 1 ∧ x.acts[j']? = some a ∧ Q' = addF g.follows (a, s) x.count)) (hF : (j + 1 = x.acts.length ∧ F' = addC g.ends s x.count) ∨ (j + 1 ≠ x.acts.length ∧ F' = g.ends)) : MidG st x (j + 1) ⟨addC g.acts s x.count, S', F', Q'⟩ := by
  have hjl := lt_of_get hs
  have hf := h.f
  rw [if_neg (by omega)] at hf
  refine ⟨?_, ?_, ?_, ?_⟩
  · rw [midA_step hs]
    exact sameC_add h.a (midA_ok hK hxo).nd s x.count
  · rw [if_neg (Nat.succ_ne_zero j)]
    have h1 := h.s
    rcases hS with ⟨h0, rfl⟩ | ⟨h0, rfl⟩
    · subst h0
      rw [if_pos rfl] at h1
      rw [mk1_s hs]
      exact sameC_add h1 hK.s.nd s x.count
    · rw [if_neg h0] at h1; exact h1
  · rcases hF with ⟨h0, rfl⟩ | ⟨h0, rfl⟩
    · rw [if_pos h0, mk1_f hs h0]
      exact sameC_add hf hK.f.nd s x.count
    · rw [if_neg h0]; exact hf
  · rcases hQ with ⟨h0, rfl⟩ | ⟨j', a, rfl, ha, rfl⟩
    · subst h0
      rw [midQ_zero hs]; exact h.q
    · rw [midQ_step ha hs]
      exact sameF_add h.q (midQ_ok hK hxo).1.nd (a, s) x.count
theorem MidG.done {st : M4} {x : Var} {g : Dfg} (h : MidG st x x.acts.length g) : SameG g (mk1 st x) := by
  have eA : midA st x x.acts.length = (mk1 st x).a := by unfold midA mk1; rw [List.take_length]
  have eQ : midQ st x x.acts.length = (mk1 st x).q := by unfold midQ mk1; rw [List.take_length]
  have h2 := h.s
  have h3 := h.f
  rw [if_pos rfl] at h3
  refine ⟨eA ▸ h.a, ?_, h3, eQ ▸ h.q⟩
  split at h2
  · rename_i h0
    have h1 : (mk1 st x).s = st.s := by unfold mk1; rw [List.eq_nil_of_length_eq_zero h0]
    rw [h1]; exact h2
  · exact h2
theorem sameG_unique {g g' : Dfg} {st : M4} (h : SameG g st) (k : SameG g' st) : g = g' := by
  obtain ⟨a, s, f, q⟩ := g
  obtain ⟨a', s', f', q'⟩ := g'
  have e1 := sameC_unique h.1 k.1
  have e2 := sameC_unique h.2.1 k.2.1
  have e3 := sameC_unique h.2.2.1 k.2.2.1
  have e4 := sameF_unique h.2.2.2 k.2.2.2
  dsimp only at e1 e2 e3 e4
  rw [e1, e2, e3, e4]
end Go.Proofs.YtebcjijpdhbcdaaGreat
