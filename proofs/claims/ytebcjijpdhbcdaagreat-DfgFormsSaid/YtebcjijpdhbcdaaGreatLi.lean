/-
  Plain laws: automata: what silent moves reach, and how far it is to the end. No program in sight.
  Plain laws: automata: the words up to a length, as the program finds them and as the reference does. No program in sight.
  Plain laws: the automaton of a directly-follows graph. No program in sight.
-/
import Derived.Test.YtebcjijpdhbcdaaGreatLh
import Derived.Test.YtebcjijpdhbcdaaGreatLj
namespace Go.Proofs.YtebcjijpdhbcdaaGreat
open Go.RowKit Go.Cb Go.En
set_option linter.all false

def Srt (l : List Int) : Prop := l.Pairwise (· < ·)
theorem srt_ext : ∀ {l m : List Int}, Srt l → Srt m → (∀ x, x ∈ l ↔ x ∈ m) → l = m
  | [], [], _, _, _ => rfl
  | [], y :: m, _, _, h => absurd ((h y).2 (List.mem_cons_self ..)) (by simp)
  | x :: l, [], _, _, h => absurd ((h x).1 (List.mem_cons_self ..)) (by simp)
  | x :: l, y :: m, hl, hm, h => by
    have hl' := List.pairwise_cons.1 hl
    have hm' := List.pairwise_cons.1 hm
    have hxy : x = y := by
      have h1 := (h x).1 (List.mem_cons_self ..)
      have h2 := (h y).2 (List.mem_cons_self ..)
      rcases List.mem_cons.1 h1 with e | h1
      · exact e
      · rcases List.mem_cons.1 h2 with e | h2
        · exact e.symm
        · have := hm'.1 x h1; have := hl'.1 y h2; omega
    subst hxy
    congr 1
    refine srt_ext hl'.2 hm'.2 fun z => ⟨fun hz => ?_, fun hz => ?_⟩
    · rcases List.mem_cons.1 ((h z).1 (List.mem_cons_of_mem _ hz)) with e | h1
      · have := hl'.1 z hz; omega
      · exact h1
    · rcases List.mem_cons.1 ((h z).2 (List.mem_cons_of_mem _ hz)) with e | h1
      · have := hm'.1 z hz; omega
      · exact h1
theorem Srt.filter {l : List Int} (h : Srt l) (p : Int → Bool) : Srt (l.filter p) := List.Pairwise.filter p h

inductive Rch (a : Aut) (l : List Int) : Int → Prop
  | base {s : Int} (h : s ∈ l) : Rch a l s
  | step {s : Int} {m : Mv} (h : Rch a l s) (hm : m ∈ a.moves) (hs : m.src = s) (hc : m.sym = -1) : Rch a l m.dst
theorem addSt_mem {out : List Int} {s t : Int} : t ∈ addSt out s ↔ t ∈ out ∨ t = s := by
  unfold addSt; split
  · rename_i h
    constructor
    · exact .inl
    · rintro (h1 | rfl)
      · exact h1
      · simpa using h
  · simp
theorem addSts_mem : ∀ (l : List Int) {out : List Int} {t : Int}, t ∈ addSts l out ↔ t ∈ out ∨ t ∈ l
  | [], out, t => by simp [addSts]
  | x :: l, out, t => by
    show t ∈ addSts l (addSt out x) ↔ _
    rw [addSts_mem l, addSt_mem, List.mem_cons]; exact or_assoc
theorem addSt_pre (out : List Int) (s : Int) : out <+: addSt out s := by
  unfold addSt; split
  · exact List.prefix_refl _
  · exact List.prefix_append _ _
theorem addSts_pre : ∀ (l out : List Int), out <+: addSts l out
  | [], out => List.prefix_refl _
  | x :: l, out => (addSt_pre out x).trans (addSts_pre l (addSt out x))
theorem clAt_pre1 (a : Aut) (l : List Int) (i : Nat) : clAt a l i <+: clAt a l (i + 1) := by
  rw [clAt, clStep]; split
  · exact addSts_pre _ _
  · exact List.prefix_refl _
theorem clAt_pre (a : Aut) (l : List Int) (i : Nat) : ∀ j, clAt a l i <+: clAt a l (i + j)
  | 0 => List.prefix_refl _
  | j + 1 => (clAt_pre a l i j).trans (clAt_pre1 a l (i + j))
theorem pre_get {l m : List Int} (h : l <+: m) {i : Nat} {x : Int} (hx : l[i]? = some x) : m[i]? = some x := by
  obtain ⟨r, rfl⟩ := h
  rw [List.getElem?_append_left (lt_of_get hx)]; exact hx
theorem silent_mem {a : Aut} {s : Int} (h0 : 0 ≤ s) {t : Int} : t ∈ silent (movesOf a s.toNat) ↔ ∃ m ∈ a.moves, m.src = s ∧ m.sym = -1 ∧ m.dst = t := by
  unfold silent movesOf
  simp only [List.mem_map, List.mem_filter, decide_eq_true_eq]
  constructor
  · rintro ⟨m, ⟨⟨h1, h2⟩, h3⟩, h4⟩
    exact ⟨m, h1, by omega, h3, h4⟩
  · rintro ⟨m, h1, h2, h3, h4⟩
    exact ⟨m, ⟨⟨h1, by omega⟩, h3⟩, h4⟩
theorem clAt_sound {a : Aut} {l : List Int} (h : MvIn a) (hl : ∀ s ∈ l, 0 ≤ s ∧ s < a.n) : ∀ i t, t ∈ clAt a l i → Rch a l t
  | 0, t, ht => by
    rw [clAt, addSts_mem] at ht
    exact .base (by simpa using ht)
  | i + 1, t, ht => by
    rw [clAt, clStep] at ht
    split at ht
    · rename_i s hs
      rcases (addSts_mem _).1 ht with h1 | h1
      · exact clAt_sound h hl i t h1
      · have hsm := List.mem_of_getElem? hs
        obtain ⟨m, h2, h3, h4, rfl⟩ := (silent_mem ((clAt_ok h hl i).2 s hsm).1).1 h1
        exact .step (clAt_sound h hl i s hsm) h2 h3 h4
    · exact clAt_sound h hl i t ht
theorem clAt_full {a : Aut} {l : List Int} (h : MvIn a) (hl : ∀ s ∈ l, 0 ≤ s ∧ s < a.n) {t : Int} (ht : Rch a l t) : t ∈ clAt a l a.n.toNat := by
  induction ht with
  | base h1 =>
    have h2 : clAt a l 0 <+: clAt a l (0 + a.n.toNat) := clAt_pre a l 0 a.n.toNat
    rw [Nat.zero_add] at h2
    refine h2.subset ?_
    rw [clAt, addSts_mem]; exact .inr h1
  | @step s m h1 hm hs hc ih =>
    obtain ⟨i, hi⟩ := List.getElem?_of_mem ih
    have hil := lt_of_get hi
    have hok := clAt_ok h hl a.n.toNat
    have hlen := hok.len
    have h3 : i < (clAt a l i).length := by
      rcases Nat.lt_or_ge i (clAt a l i).length with h4 | h4
      · exact h4
      · have h5 := clAt_end h4 (show i ≤ a.n.toNat by omega)
        rw [h5] at hil; omega
    have h4 : (clAt a l i)[i]? = some s := by
      have h5 := clAt_pre a l i (a.n.toNat - i)
      rw [show i + (a.n.toNat - i) = a.n.toNat by omega] at h5
      obtain ⟨x, hx⟩ := get_some h3
      rw [hx, ← hi]; exact (pre_get h5 hx).symm
    have h5 : m.dst ∈ clAt a l (i + 1) := by
      rw [clAt, clStep, h4]
      refine (addSts_mem _).2 (.inr ((silent_mem (hok.2 s ih).1).2 ⟨m, hm, hs, hc, rfl⟩))
    have h6 := clAt_pre a l (i + 1) (a.n.toNat - (i + 1))
    rw [show i + 1 + (a.n.toNat - (i + 1)) = a.n.toNat by omega] at h6
    exact h6.subset h5
theorem closL_mem {a : Aut} {l : List Int} (h : MvIn a) (hl : ∀ s ∈ l, 0 ≤ s ∧ s < a.n) (t : Int) : t ∈ closL a l ↔ Rch a l t := by
  unfold closL
  rw [List.mem_mergeSort]
  exact ⟨clAt_sound h hl _ t, clAt_full h hl⟩
theorem closL_srt {a : Aut} {l : List Int} (h : MvIn a) (hl : ∀ s ∈ l, 0 ≤ s ∧ s < a.n) : Srt (closL a l) := by
  have h1 : (closL a l).Pairwise (fun x y => decide (x ≤ y) = true) := List.pairwise_mergeSort (fun a b c h1 h2 => by simp only [decide_eq_true_eq] at *; omega) (fun a b => by simp only [Bool.or_eq_true, decide_eq_true_eq]; omega) _
  have h2 : (closL a l).Nodup := (List.mergeSort_perm _ _).nodup_iff.2 (clAt_ok h hl _).1
  unfold Srt
  exact (h1.and h2).imp fun {x y} ⟨h3, h4⟩ => by simp only [decide_eq_true_eq] at h3; omega
theorem rch_in {a : Aut} {l : List Int} (h : MvIn a) (hl : ∀ s ∈ l, 0 ≤ s ∧ s < a.n) {t : Int} (ht : Rch a l t) : 0 ≤ t ∧ t < a.n := by
  cases ht with
  | base h1 => exact hl t h1
  | step _ hm _ _ => exact h _ hm
theorem closL_in {a : Aut} {l : List Int} (h : MvIn a) (hl : ∀ s ∈ l, 0 ≤ s ∧ s < a.n) : ∀ t ∈ closL a l, 0 ≤ t ∧ t < a.n := fun t ht => rch_in h hl ((closL_mem h hl t).1 ht)
theorem closL_len {a : Aut} {l : List Int} (h : MvIn a) (hl : ∀ s ∈ l, 0 ≤ s ∧ s < a.n) : (closL a l).length ≤ a.n.toNat := by
  unfold closL
  rw [List.length_mergeSort]; exact (clAt_ok h hl _).len
theorem leads_mem {a : Aut} {c : Int} {l : List Int} (hl : ∀ s ∈ l, 0 ≤ s ∧ s < a.n) {t : Int} : t ∈ leads a c l ↔ ∃ m ∈ a.moves, m.src ∈ l ∧ m.sym = c ∧ m.dst = t := by
  unfold leads bySym movesOf
  simp only [List.mem_flatMap, List.mem_map, List.mem_filter, decide_eq_true_eq]
  constructor
  · rintro ⟨s, hs, m, ⟨⟨h1, h2⟩, h3⟩, h4⟩
    have := hl s hs
    exact ⟨m, h1, by rw [h2, show ((s.toNat : Nat) : Int) = s by omega]; exact hs, h3, h4⟩
  · rintro ⟨m, h1, h2, h3, h4⟩
    have := hl _ h2
    exact ⟨m.src, h2, m, ⟨⟨h1, by omega⟩, h3⟩, h4⟩

def stepD (m : Mv) (d : Int) : Int := if 0 ≤ m.sym then d + 1 else d
def relax (far : List Int) (m : Mv) : List Int :=
  match far[m.dst.toNat]?, far[m.src.toNat]? with
  | some d, some e => if 0 ≤ d ∧ (e < 0 ∨ stepD m d < e) then far.set m.src.toNat (stepD m d) else far
  | _, _ => far
def passF (ms : List Mv) (far : List Int) : List Int := ms.foldl relax far
def farInit (a : Aut) : List Int := (List.range a.n.toNat).map fun s => if finB a (s : Nat) then 0 else -1
def farAt (a : Aut) : Nat → List Int
  | 0 => farInit a
  | k + 1 => passF a.moves (farAt a k)
def farL (a : Aut) : List Int := farAt a (a.n.toNat * a.n.toNat + 1)
def cntD (far : List Int) : Nat := far.countP fun d => decide (0 ≤ d)
def wgt (n : Nat) (d : Int) : Nat := if 0 ≤ d then d.toNat else n
def sumF (n : Nat) (far : List Int) : Nat := (far.map (wgt n)).sum
structure FarOk (n : Nat) (far : List Int) : Prop where
  len : far.length = n
  lo : ∀ d ∈ far, -1 ≤ d
  hi : ∀ d ∈ far, d < cntD far
theorem cntD_le (far : List Int) : cntD far ≤ far.length := List.countP_le_length
theorem cntD_set : ∀ (far : List Int) (i : Nat) (e d : Int), far[i]? = some e → 0 ≤ d → cntD (far.set i d) = cntD far + (if 0 ≤ e then 0 else 1)
  | [], i, e, d, h, _ => by simp at h
  | x :: far, 0, e, d, h, hd => by
    simp only [List.getElem?_cons_zero, Option.some.injEq] at h
    subst h
    unfold cntD
    rw [List.set_cons_zero, List.countP_cons, List.countP_cons, decide_eq_true hd]
    by_cases hx : 0 ≤ x <;> simp [hx]
  | x :: far, i + 1, e, d, h, hd => by
    simp only [List.getElem?_cons_succ] at h
    have := cntD_set far i e d h hd
    unfold cntD at this ⊢
    rw [List.set_cons_succ, List.countP_cons, List.countP_cons, this]; omega
theorem sumF_set : ∀ (n : Nat) (far : List Int) (i : Nat) (e d : Int), far[i]? = some e → sumF n (far.set i d) + wgt n e = sumF n far + wgt n d
  | n, [], i, e, d, h => by simp at h
  | n, x :: far, 0, e, d, h => by
    simp only [List.getElem?_cons_zero, Option.some.injEq] at h
    subst h
    unfold sumF
    rw [List.set_cons_zero, List.map_cons, List.map_cons, List.sum_cons, List.sum_cons]; omega
  | n, x :: far, i + 1, e, d, h => by
    simp only [List.getElem?_cons_succ] at h
    have := sumF_set n far i e d h
    unfold sumF at this ⊢
    rw [List.set_cons_succ, List.map_cons, List.map_cons, List.sum_cons, List.sum_cons]; omega
theorem stepD_le (m : Mv) (d : Int) : d ≤ stepD m d ∧ stepD m d ≤ d + 1 := by unfold stepD; split <;> omega
theorem relax_set {n : Nat} {far : List Int} (h : FarOk n far) {m : Mv} {d e : Int} (hd : far[m.dst.toNat]? = some d) (he : far[m.src.toNat]? = some e) (h0 : 0 ≤ d) (h1 : e < 0 ∨ stepD m d < e) :
    FarOk n (far.set m.src.toNat (stepD m d)) ∧ sumF n (far.set m.src.toNat (stepD m d)) < sumF n far := by
  have hs := stepD_le m d
  have hdc := h.hi d (List.mem_of_getElem? hd)
  have hec := h.hi e (List.mem_of_getElem? he)
  have hc := cntD_set far m.src.toNat e (stepD m d) he (by omega)
  have hsum := sumF_set n far m.src.toNat e (stepD m d) he
  have hcl := cntD_le (far.set m.src.toNat (stepD m d))
  rw [List.length_set, h.len] at hcl
  refine ⟨⟨by rw [List.length_set]; exact h.len, fun x hx => ?_, fun x hx => ?_⟩, ?_⟩
  · rcases List.mem_or_eq_of_mem_set hx with h2 | rfl
    · exact h.lo x h2
    · omega
  · rw [hc]
    rcases List.mem_or_eq_of_mem_set hx with h2 | rfl
    · have := h.hi x h2; split <;> omega
    · split <;> omega
  · unfold wgt at hsum
    rw [if_pos (show 0 ≤ stepD m d by omega)] at hsum
    rcases h1 with h1 | h1
    · rw [if_neg (by omega)] at hsum hc; omega
    · rw [if_pos (by omega)] at hsum; omega
theorem relax_cases {n : Nat} {far : List Int} (h : FarOk n far) (m : Mv) : FarOk n (relax far m) ∧ (relax far m = far ∨ sumF n (relax far m) < sumF n far) := by
  unfold relax
  split
  · rename_i d e hd he
    split
    · rename_i h1
      have := relax_set h hd he h1.1 h1.2
      exact ⟨this.1, .inr this.2⟩
    · exact ⟨h, .inl rfl⟩
  · exact ⟨h, .inl rfl⟩
theorem passF_cases {n : Nat} : ∀ (ms : List Mv) {far : List Int}, FarOk n far → FarOk n (passF ms far) ∧ (passF ms far = far ∨ sumF n (passF ms far) < sumF n far)
  | [], far, h => ⟨h, .inl rfl⟩
  | m :: ms, far, h => by
    obtain ⟨h1, h2⟩ := relax_cases h m
    obtain ⟨h3, h4⟩ := passF_cases ms h1
    refine ⟨h3, ?_⟩
    show passF ms (relax far m) = far ∨ _
    rcases h2 with h2 | h2
    · rw [h2] at h4
      show passF ms (relax far m) = far ∨ sumF n (passF ms (relax far m)) < sumF n far
      rw [h2]; exact h4
    · right
      show sumF n (passF ms (relax far m)) < sumF n far
      rcases h4 with h4 | h4
      · rw [h4]; exact h2
      · omega
theorem passF_still {n : Nat} : ∀ (ms : List Mv) {far : List Int}, FarOk n far → passF ms far = far → ∀ m ∈ ms, relax far m = far
  | [], far, h, _, m, hm => by simp at hm
  | x :: ms, far, h, he, m, hm => by
    obtain ⟨h1, h2⟩ := relax_cases h x
    obtain ⟨h3, h4⟩ := passF_cases ms h1
    have he' : passF ms (relax far x) = far := he
    have hx : relax far x = far := by
      rcases h2 with h2 | h2
      · exact h2
      · rcases h4 with h4 | h4
        · rw [he'] at h4; exact h4.symm
        · rw [he'] at h4; omega
    rcases List.mem_cons.1 hm with rfl | hm
    · exact hx
    · rw [hx] at he'; exact passF_still ms h he' m hm
theorem farInit_at {a : Aut} {s : Nat} (h : s < a.n.toNat) : (farInit a)[s]? = some (if finB a (s : Nat) then 0 else -1) := by
  unfold farInit; rw [List.getElem?_map, List.getElem?_range h]; rfl
theorem farInit_ok (a : Aut) : FarOk a.n.toNat (farInit a) := by
  refine ⟨by unfold farInit; simp, fun d hd => ?_, fun d hd => ?_⟩
  · unfold farInit at hd
    obtain ⟨s, _, rfl⟩ := List.mem_map.1 hd
    split <;> omega
  · have hd2 := hd
    unfold farInit at hd2
    obtain ⟨s, _, hs⟩ := List.mem_map.1 hd2
    by_cases h0 : 0 ≤ d
    · have h1 : 0 < cntD (farInit a) := List.countP_pos_iff.2 ⟨d, hd, decide_eq_true h0⟩
      split at hs <;> omega
    · omega
theorem farAt_ok (a : Aut) : ∀ k, FarOk a.n.toNat (farAt a k)
  | 0 => farInit_ok a
  | k + 1 => (passF_cases a.moves (farAt_ok a k)).1
theorem sumF_le {n : Nat} {far : List Int} (h : FarOk n far) : sumF n far ≤ n * n := by
  have hc := cntD_le far
  rw [h.len] at hc
  have key : ∀ (l : List Int), (∀ d ∈ l, d < (n : Int)) → (l.map (wgt n)).sum ≤ l.length * n := fun l => by
    induction l with
    | nil => intro _; simp
    | cons x l ih =>
      intro hx
      have h1 := ih fun d hd => hx d (List.mem_cons_of_mem _ hd)
      have h2 := hx x (List.mem_cons_self ..)
      rw [List.map_cons, List.sum_cons, List.length_cons, Nat.succ_mul]
      have h3 : wgt n x ≤ n := by unfold wgt; split <;> omega
      omega
  have := key far fun d hd => by have := h.hi d hd; omega
  rw [h.len] at this; exact this
theorem farAt_stop {a : Aut} {k : Nat} (h : passF a.moves (farAt a k) = farAt a k) : ∀ j, farAt a (k + j) = farAt a k
  | 0 => rfl
  | j + 1 => by rw [← Nat.add_assoc, farAt, farAt_stop h j, h]
theorem farAt_fix (a : Aut) : passF a.moves (farL a) = farL a := by
  have key : ∀ k, (∃ j, j ≤ k ∧ passF a.moves (farAt a j) = farAt a j) ∨ sumF a.n.toNat (farAt a k) + k ≤ a.n.toNat * a.n.toNat := fun k => by
    induction k with
    | zero => exact .inr (sumF_le (farAt_ok a 0))
    | succ k ih =>
      rcases ih with ⟨j, h1, h2⟩ | h
      · exact .inl ⟨j, by omega, h2⟩
      · rcases (passF_cases a.moves (farAt_ok a k)).2 with h1 | h1
        · exact .inl ⟨k, by omega, h1⟩
        · right; rw [farAt]; omega
  rcases key (a.n.toNat * a.n.toNat + 1) with ⟨j, h1, h2⟩ | h
  · have h3 := farAt_stop h2 (a.n.toNat * a.n.toNat + 1 - j)
    rw [show j + (a.n.toNat * a.n.toNat + 1 - j) = a.n.toNat * a.n.toNat + 1 by omega] at h3
    unfold farL; rw [h3, h2]
  · omega
theorem farL_eq {a : Aut} {k : Nat} (h : passF a.moves (farAt a k) = farAt a k) : farL a = farAt a k := by
  have h1 := farAt_fix a
  unfold farL at h1 ⊢
  rcases Nat.le_total k (a.n.toNat * a.n.toNat + 1) with h2 | h2
  · have h3 := farAt_stop h (a.n.toNat * a.n.toNat + 1 - k)
    rwa [show k + (a.n.toNat * a.n.toNat + 1 - k) = a.n.toNat * a.n.toNat + 1 by omega] at h3
  · have h3 := farAt_stop h1 (k - (a.n.toNat * a.n.toNat + 1))
    rw [show a.n.toNat * a.n.toNat + 1 + (k - (a.n.toNat * a.n.toNat + 1)) = k by omega] at h3
    exact h3.symm
theorem farL_ok (a : Aut) : FarOk a.n.toNat (farL a) := farAt_ok a _
theorem farL_tri {a : Aut} {m : Mv} (hm : m ∈ a.moves) {d e : Int} (hd : (farL a)[m.dst.toNat]? = some d) (he : (farL a)[m.src.toNat]? = some e) (h0 : 0 ≤ d) : 0 ≤ e ∧ e ≤ stepD m d := by
  have h1 := passF_still a.moves (farL_ok a) (farAt_fix a) m hm
  unfold relax at h1
  rw [hd, he] at h1
  dsimp only at h1
  split at h1
  · rename_i h2
    have h3 := relax_set (farL_ok a) hd he h2.1 h2.2
    rw [h1] at h3
    omega
  · rename_i h2
    omega
end Go.Proofs.YtebcjijpdhbcdaaGreat

namespace Go.Proofs.YtebcjijpdhbcdaaGreat
open Go.RowKit Go.Cb Go.En
set_option linter.all false

abbrev Pf := List Int × List Int
def accB (a : Aut) (S : List Int) : Bool := S.any (finB a)
def InS (a : Aut) (S : List Int) : Prop := ∀ s ∈ S, 0 ≤ s ∧ s < a.n
def kidP (a : Aut) (n : Int) (p : Pf) (c : Nat) : List Pf := if (nearL (nextL a c p.2) (farL a) (n - 1)).length = 0 then [] else [(p.1 ++ [(c : Int)], nearL (nextL a c p.2) (farL a) (n - 1))]
def kidsP (a : Aut) (n : Int) (p : Pf) : List Pf := (List.range a.syms.toNat).flatMap (kidP a n p)
def lvP (a : Aut) (n : Nat) : Nat → List Pf
  | 0 => [([], nearL (closL a a.start) (farL a) n)]
  | k + 1 => (lvP a n k).flatMap (kidsP a ((n : Int) - k))
def outP (a : Aut) (l : List Pf) : List (List Int) := (l.filter fun p => accB a p.2).map (·.1)
def sumP (a : Aut) (n k : Nat) : List (List Int) := (List.range k).flatMap fun i => outP a (lvP a n i)
def bigP (a : Aut) (n : Nat) : Prop := (∃ k, k ≤ n ∧ 2000 < (lvP a n (k + 1)).length) ∨ 2000 < (sumP a n (n + 1)).length
def bestF (far : List Int) (b s : Int) : Int := match far[s.toNat]? with
  | some d => if 0 ≤ d ∧ (b < 0 ∨ d < b) then d else b
  | none => b
def leastL (far S : List Int) : Int := S.foldl (bestF far) (-1)
def kidR (a : Aut) (n : Int) (p : Pf) (c : Nat) : List Pf := if 0 ≤ leastL (farL a) (nextL a c p.2) ∧ leastL (farL a) (nextL a c p.2) ≤ n - 1 then [(p.1 ++ [(c : Int)], nextL a c p.2)] else []
def kidsR (a : Aut) (n : Int) (p : Pf) : List Pf := (List.range a.syms.toNat).flatMap (kidR a n p)
def lvR (a : Aut) (n : Nat) : Nat → List Pf
  | 0 => [([], closL a a.start)]
  | k + 1 => (lvR a n k).flatMap (kidsR a ((n : Int) - k))
theorem far_some {a : Aut} {s : Int} (h : 0 ≤ s ∧ s < a.n) : ∃ d, (farL a)[s.toNat]? = some d := get_some (by rw [(farL_ok a).len]; omega)
theorem near_mem {a : Aut} {S : List Int} (hS : InS a S) {n : Int} {s : Int} : s ∈ nearL S (farL a) n ↔ s ∈ S ∧ ∃ d, (farL a)[s.toNat]? = some d ∧ 0 ≤ d ∧ d ≤ n := by
  unfold nearL farB
  rw [List.mem_filter]
  constructor
  · rintro ⟨h1, h2⟩
    obtain ⟨d, hd⟩ := far_some (hS s h1)
    rw [hd] at h2
    simp only [Bool.not_eq_true', Bool.or_eq_false_iff, decide_eq_false_iff_not] at h2
    exact ⟨h1, d, hd, by omega, by omega⟩
  · rintro ⟨h1, d, hd, h2, h3⟩
    rw [hd]
    simp only [Bool.not_eq_true', Bool.or_eq_false_iff, decide_eq_false_iff_not]
    exact ⟨h1, by omega, by omega⟩
theorem near_in {a : Aut} {S : List Int} (hS : InS a S) (far : List Int) (n : Int) : InS a (nearL S far n) := fun s hs => hS s ((List.mem_filter.1 hs).1)
theorem next_in {a : Aut} (h : MvIn a) (c : Int) (S : List Int) : InS a (nextL a c S) := closL_in h (leads_in h c S)
theorem next_mem {a : Aut} (h : MvIn a) {c : Int} {S : List Int} {t : Int} : t ∈ nextL a c S ↔ Rch a (leads a c S) t := closL_mem h (leads_in h c S) t
theorem near_srt {a : Aut} {S : List Int} (h : Srt S) (far : List Int) (n : Int) : Srt (nearL S far n) := h.filter _
theorem near_next {a : Aut} (h : MvIn a) {S : List Int} (hS : InS a S) {c : Int} (hc : 0 ≤ c) (n : Int) : nearL (nextL a c (nearL S (farL a) n)) (farL a) (n - 1) = nearL (nextL a c S) (farL a) (n - 1) := by
  refine srt_ext (near_srt (a := a) (closL_srt h (leads_in h c _)) _ _) (near_srt (a := a) (closL_srt h (leads_in h c _)) _ _) fun t => ?_
  rw [near_mem (next_in h c _), near_mem (next_in h c _), next_mem h, next_mem h]
  constructor
  · rintro ⟨h1, h2⟩
    refine ⟨?_, h2⟩
    clear h2
    induction h1 with
    | base h3 =>
      obtain ⟨m, h4, h5, h6, h7⟩ := (leads_mem (near_in hS _ _)).1 h3
      exact .base ((leads_mem hS).2 ⟨m, h4, (List.mem_filter.1 h5).1, h6, h7⟩)
    | step _ hm hs hc ih => exact .step ih hm hs hc
  · rintro ⟨h1, d, hd, h2, h3⟩
    refine ⟨?_, d, hd, h2, h3⟩
    induction h1 generalizing d with
    | base h3' =>
      obtain ⟨m, h4, h5, h6, rfl⟩ := (leads_mem hS).1 h3'
      obtain ⟨e, he⟩ := far_some (hS _ h5)
      have h8 := farL_tri h4 hd he h2
      unfold stepD at h8
      rw [if_pos (by omega)] at h8
      exact .base ((leads_mem (near_in hS _ _)).2 ⟨m, h4, (near_mem hS).2 ⟨h5, e, he, h8.1, by omega⟩, h6, rfl⟩)
    | @step s m hr hm hs hcc ih =>
      subst hs
      obtain ⟨e, he⟩ := far_some (rch_in h (leads_in h c _) hr)
      have h8 := farL_tri hm hd he h2
      unfold stepD at h8
      rw [if_neg (by omega)] at h8
      exact .step (ih e he h8.1 (by omega)) hm rfl hcc
theorem least_spec (far : List Int) : ∀ (S : List Int) (b : Int), -1 ≤ b →
    (S.foldl (bestF far) b = b ∨ ∃ s ∈ S, far[s.toNat]? = some (S.foldl (bestF far) b) ∧ 0 ≤ S.foldl (bestF far) b) ∧
    (0 ≤ b → 0 ≤ S.foldl (bestF far) b ∧ S.foldl (bestF far) b ≤ b) ∧
    (∀ s ∈ S, ∀ d, far[s.toNat]? = some d → 0 ≤ d → 0 ≤ S.foldl (bestF far) b ∧ S.foldl (bestF far) b ≤ d)
  | [], b, _ => ⟨.inl rfl, fun h => ⟨h, by simp⟩, fun s hs => by simp at hs⟩
  | x :: S, b, hb => by
    have hb' : -1 ≤ bestF far b x ∧ (bestF far b x = b ∨ (far[x.toNat]? = some (bestF far b x) ∧ 0 ≤ bestF far b x)) ∧ (0 ≤ b → 0 ≤ bestF far b x ∧ bestF far b x ≤ b) ∧ (∀ d, far[x.toNat]? = some d → 0 ≤ d → 0 ≤ bestF far b x ∧ bestF far b x ≤ d) := by
      unfold bestF
      split
      · rename_i d hd
        split
        · rename_i h1
          refine ⟨by omega, .inr ⟨by first | exact hd | rfl, h1.1⟩, fun h => by omega, fun d' hd' h => ?_⟩
          first
            | (rw [hd] at hd'; cases hd'; omega)
            | (cases hd'; omega)
        · rename_i h1
          refine ⟨hb, .inl rfl, fun h => by omega, fun d' hd' h => ?_⟩
          first
            | (rw [hd] at hd'; cases hd'; omega)
            | (cases hd'; omega)
      · rename_i hd
        refine ⟨hb, .inl rfl, fun h => by omega, fun d' hd' h => ?_⟩
        first
          | (rw [hd] at hd'; cases hd')
          | cases hd'
    obtain ⟨h1, h2, h3⟩ := least_spec far S (bestF far b x) hb'.1
    simp only [List.foldl_cons]
    refine ⟨?_, fun h => ?_, fun s hs d hd h => ?_⟩
    · rcases h1 with h1 | ⟨s, hs, h4⟩
      · rcases hb'.2.1 with h5 | h5
        · exact .inl (by rw [h1, h5])
        · exact .inr ⟨x, List.mem_cons_self .., by rw [h1]; exact h5⟩
      · exact .inr ⟨s, List.mem_cons_of_mem _ hs, h4⟩
    · have h4 := hb'.2.2.1 h
      have h5 := h2 h4.1
      omega
    · rcases List.mem_cons.1 hs with rfl | hs
      · have h4 := hb'.2.2.2 d hd h
        have h5 := h2 h4.1
        omega
      · exact h3 s hs d hd h
theorem least_near {a : Aut} {S : List Int} (hS : InS a S) (n : Int) : (nearL S (farL a) n).length = 0 ↔ ¬ (0 ≤ leastL (farL a) S ∧ leastL (farL a) S ≤ n) := by
  obtain ⟨h1, _, h3⟩ := least_spec (farL a) S (-1) (by omega)
  unfold leastL
  constructor
  · rintro h ⟨h4, h5⟩
    rcases h1 with h1 | ⟨s, hs, h6, h7⟩
    · omega
    · have : s ∈ nearL S (farL a) n := (near_mem hS).2 ⟨hs, _, h6, h7, h5⟩
      rw [List.eq_nil_of_length_eq_zero h] at this
      simp at this
  · intro h
    rcases Nat.eq_zero_or_pos (nearL S (farL a) n).length with h4 | h4
    · exact h4
    · exfalso
      obtain ⟨s, hs⟩ := List.exists_mem_of_length_pos h4
      obtain ⟨h5, d, hd, h6, h7⟩ := (near_mem hS).1 hs
      have := h3 s h5 d hd h6
      exact h ⟨this.1, by omega⟩

def prune (a : Aut) (n : Int) (p : Pf) : Pf := (p.1, nearL p.2 (farL a) n)
theorem kid_same {a : Aut} (h : MvIn a) {p : Pf} (hp : InS a p.2) (n : Int) (c : Nat) : kidP a n (prune a n p) c = (kidR a n p c).map (prune a (n - 1)) := by
  unfold kidP kidR prune
  dsimp only
  rw [near_next h hp (by omega)]
  have h1 := least_near (next_in h c p.2) (n - 1)
  by_cases h2 : (nearL (nextL a c p.2) (farL a) (n - 1)).length = 0
  · rw [if_pos h2, if_neg (h1.1 h2)]; rfl
  · rw [if_neg h2, if_pos (by rcases Classical.em (0 ≤ leastL (farL a) (nextL a c p.2) ∧ leastL (farL a) (nextL a c p.2) ≤ n - 1) with h3 | h3; exact h3; exact absurd (h1.2 h3) h2)]; rfl
theorem lvR_in {a : Aut} (h : MvIn a) (hs : InS a a.start) (n : Nat) : ∀ k, ∀ p ∈ lvR a n k, InS a p.2
  | 0, p, hp => by
    simp only [lvR, List.mem_singleton] at hp
    subst hp
    exact closL_in h hs
  | k + 1, p, hp => by
    rw [lvR] at hp
    obtain ⟨q, _, hq⟩ := List.mem_flatMap.1 hp
    obtain ⟨c, _, hc⟩ := List.mem_flatMap.1 hq
    unfold kidR at hc
    split at hc
    · simp only [List.mem_singleton] at hc
      subst hc
      exact next_in h c _
    · simp at hc
theorem flatMap_ext {α β : Type} {l : List α} {f g : α → List β} (h : ∀ x ∈ l, f x = g x) : l.flatMap f = l.flatMap g := by
  induction l with
  | nil => rfl
  | cons x l ih => rw [List.flatMap_cons, List.flatMap_cons, h x (List.mem_cons_self ..), ih fun y hy => h y (List.mem_cons_of_mem _ hy)]
theorem lv_same {a : Aut} (h : MvIn a) (hs : InS a a.start) (n : Nat) : ∀ k, lvP a n k = (lvR a n k).map (prune a ((n : Int) - k))
  | 0 => by
    show [_] = [_]
    unfold prune
    simp
  | k + 1 => by
    rw [lvP, lvR, lv_same h hs n k, List.flatMap_map, List.map_flatMap]
    refine flatMap_ext fun p hp => ?_
    unfold kidsP kidsR
    rw [List.map_flatMap]
    refine flatMap_ext fun c _ => ?_
    rw [kid_same h (lvR_in h hs n k p hp)]
    congr 2
    omega
theorem sumP_snoc (a : Aut) (n k : Nat) : sumP a n (k + 1) = sumP a n k ++ outP a (lvP a n k) := by
  unfold sumP; rw [List.range_succ, List.flatMap_append]; simp
theorem sumP_mono (a : Aut) (n : Nat) {j k : Nat} (h : j ≤ k) : (sumP a n j).length ≤ (sumP a n k).length := by
  obtain ⟨i, rfl⟩ : ∃ i, k = j + i := ⟨k - j, by omega⟩
  clear h
  induction i with
  | zero => exact Nat.le_refl _
  | succ i ih => rw [← Nat.add_assoc, sumP_snoc, List.length_append]; omega
theorem outP_take {a : Aut} {l : List Pf} {i : Nat} {p : Pf} (h : l[i]? = some p) : outP a (l.take (i + 1)) = outP a (l.take i) ++ (if accB a p.2 then [p.1] else []) := by
  unfold outP
  rw [take_snoc h, List.filter_append, List.map_append]
  congr 1
  cases hb : accB a p.2 <;> simp [hb]
theorem outP_len (a : Aut) (l : List Pf) : (outP a l).length ≤ l.length := by unfold outP; rw [List.length_map]; exact List.length_filter_le _ _
theorem outP_pre (a : Aut) (l : List Pf) (i : Nat) : (outP a (l.take i)).length ≤ (outP a l).length := by
  unfold outP
  rw [List.length_map, List.length_map]
  exact (List.Sublist.filter _ (List.take_sublist i l)).length_le
theorem flat_take_len {α β : Type} (f : α → List β) (l : List α) (i : Nat) : ((l.take i).flatMap f).length ≤ (l.flatMap f).length := by
  have : l.flatMap f = (l.take i).flatMap f ++ (l.drop i).flatMap f := by rw [← List.flatMap_append, List.take_append_drop]
  rw [this, List.length_append]; omega
theorem flat_take_snoc {α β : Type} (f : α → List β) {l : List α} {i : Nat} {x : α} (h : l[i]? = some x) : (l.take (i + 1)).flatMap f = (l.take i).flatMap f ++ f x := by
  rw [take_snoc h, List.flatMap_append]; simp
theorem range_snoc {β : Type} (f : Nat → List β) (k : Nat) : (List.range (k + 1)).flatMap f = (List.range k).flatMap f ++ f k := by
  rw [List.range_succ, List.flatMap_append]; simp
end Go.Proofs.YtebcjijpdhbcdaaGreat

namespace Go.Proofs.YtebcjijpdhbcdaaGreat
open Go.RowKit Go.Cb Go.En
set_option linter.all false

theorem idx_nth {α : Type} {p : α → Bool} : ∀ {l : List α}, l.any p = true → ∃ (i : Nat) (x : α), idx p l = (i : Int) ∧ l[i]? = some x ∧ p x = true := fun {l} h => by
  rcases idx_nat (p := p) (l := l) with ⟨_, h1⟩ | ⟨i, x, h1, h2, h3, _⟩
  · obtain ⟨x, hx, hp⟩ := List.any_eq_true.1 h
    rw [h1 x hx] at hp; cases hp
  · exact ⟨i, x, h1, h2, h3⟩
theorem ixN_get {l : List ByteArray} {s : ByteArray} (h : hasStr l s = true) : l[ixN l s]? = some s := by
  obtain ⟨i, x, h1, h2, h3⟩ := idx_nth (p := fun x => strEq x s) (l := l) h
  unfold ixN
  rw [h1, Int.toNat_natCast, h2, strEq_iff.1 h3]
theorem chain_pw {l : List ByteArray} (h : chainB strLt l = true) : l.Pairwise fun a b => strLt a b = true := by
  induction l with
  | nil => exact .nil
  | cons x l ih =>
    have h1 : ∀ i a b, (x :: l)[i]? = some a → (x :: l)[i + 1]? = some b → strLt a b = true := (chainB_iff strLt _).1 h
    have h2 := ih ((chainB_iff strLt l).2 fun i a b ha hb => h1 (i + 1) a b ha hb)
    refine List.pairwise_cons.2 ⟨fun y hy => ?_, h2⟩
    cases l with
    | nil => simp at hy
    | cons z l =>
      have h3 := h1 0 x z rfl rfl
      rcases List.mem_cons.1 hy with rfl | hy
      · exact h3
      · exact strLt_trans h3 ((List.pairwise_cons.1 h2).1 y hy)
theorem ixN_mono {acts : List ByteArray} (hc : chainB strLt acts = true) {s t : ByteArray} (hs : hasStr acts s = true) (ht : hasStr acts t = true) (hlt : strLt s t = true) : ixN acts s < ixN acts t := by
  have h1 := ixN_get hs
  have h2 := ixN_get ht
  rcases Nat.lt_trichotomy (ixN acts s) (ixN acts t) with h3 | h3 | h3
  · exact h3
  · rw [h3, h2] at h1
    cases h1
    rw [strLt_irrefl] at hlt; cases hlt
  · exfalso
    have h4 := List.pairwise_iff_getElem.1 (chain_pw hc) _ _ (lt_of_get h2) (lt_of_get h1) h3
    rw [List.getElem?_eq_getElem (lt_of_get h1)] at h1
    rw [List.getElem?_eq_getElem (lt_of_get h2)] at h2
    injection h1 with h1
    injection h2 with h2
    rw [h1, h2] at h4
    have := strLt_trans hlt h4
    rw [strLt_irrefl] at this; cases this
theorem ixN_inj {acts : List ByteArray} {s t : ByteArray} (hs : hasStr acts s = true) (ht : hasStr acts t = true) (h : ixN acts s = ixN acts t) : s = t := by
  have h1 := ixN_get hs
  rw [h, ixN_get ht] at h1
  injection h1 with h1; exact h1.symm

def moveS (acts : List ByteArray) (c : Cnt) : Mv := ⟨0, (ixN acts c.name : Nat) + 1, (ixN acts c.name : Nat)⟩
def moveF (acts : List ByteArray) (f : Flw) : Mv := ⟨(ixN acts f.src : Nat) + 1, (ixN acts f.dst : Nat) + 1, (ixN acts f.dst : Nat)⟩
def finE (acts : List ByteArray) (c : Cnt) : Int := (ixN acts c.name : Nat) + 1
def autG (g : Dfg) : Aut := ⟨(g.acts.length : Nat) + 1, (g.acts.length : Nat), [0], g.ends.map (finE (cnames g.acts)), g.starts.map (moveS (cnames g.acts)) ++ g.follows.map (moveF (cnames g.acts))⟩
structure GOk (g : Dfg) : Prop where
  n40 : g.acts.length ≤ 40
  asc : chainB strLt (cnames g.acts) = true
  st : ∀ c ∈ g.starts, hasStr (cnames g.acts) c.name = true
  en : ∀ c ∈ g.ends, hasStr (cnames g.acts) c.name = true
  fl : ∀ f ∈ g.follows, hasStr (cnames g.acts) f.src = true ∧ hasStr (cnames g.acts) f.dst = true
  stA : chainB strLt (cnames g.starts) = true
  enA : chainB strLt (cnames g.ends) = true
  flA : chainB flwLt g.follows = true
theorem gok_of {g : Dfg} (h : dfgOk g = true) : GOk g := by
  have h0 := dfg_parts h
  have hl : (cnames g.acts).length = g.acts.length := by simp [cnames]
  unfold dfgOk alphaB ascB at h
  simp only [Bool.and_eq_true] at h
  obtain ⟨⟨⟨⟨⟨⟨⟨h1, h2⟩, h3⟩, h4⟩, h5⟩, h6⟩, h7⟩, h8⟩ := h
  exact ⟨by omega, h1.2, h0.2.1, h0.2.2.1, h0.2.2.2, h2.1, h3.1, h8⟩
theorem GOk.ix {g : Dfg} (h : GOk g) {s : ByteArray} (hs : hasStr (cnames g.acts) s = true) : ixN (cnames g.acts) s < g.acts.length := by
  have := (ixN_of hs).2
  simpa [cnames] using this
theorem chainB_map {α β : Type} {r : β → β → Bool} {q : α → α → Bool} {f : α → β} {l : List α} (h : chainB q l = true) (hr : ∀ a ∈ l, ∀ b ∈ l, q a b = true → r (f a) (f b) = true) : chainB r (l.map f) = true := by
  refine (chainB_iff r _).2 fun i x y hx hy => ?_
  rw [List.getElem?_map, Option.map_eq_some_iff] at hx hy
  obtain ⟨a, ha, rfl⟩ := hx
  obtain ⟨b, hb, rfl⟩ := hy
  exact hr a (List.mem_of_getElem? ha) b (List.mem_of_getElem? hb) ((chainB_iff q l).1 h i a b ha hb)
theorem chainB_app {α : Type} {r : α → α → Bool} {l m : List α} (hl : chainB r l = true) (hm : chainB r m = true) (h : ∀ a ∈ l, ∀ b ∈ m, r a b = true) : chainB r (l ++ m) = true := by
  refine (chainB_iff r _).2 fun i x y hx hy => ?_
  rcases Nat.lt_or_ge (i + 1) l.length with h1 | h1
  · rw [List.getElem?_append_left (by omega)] at hx hy
    exact (chainB_iff r l).1 hl i x y hx hy
  · rw [List.getElem?_append_right h1] at hy
    rcases Nat.lt_or_ge i l.length with h2 | h2
    · rw [List.getElem?_append_left h2] at hx
      exact h x (List.mem_of_getElem? hx) y (List.mem_of_getElem? hy)
    · rw [List.getElem?_append_right h2] at hx
      refine (chainB_iff r m).1 hm (i - l.length) x y hx ?_
      rw [← hy]; congr 1; omega
theorem cnames_chain {l : List Cnt} (h : chainB strLt (cnames l) = true) : chainB (fun a b => strLt a.name b.name) l = true := by
  unfold cnames at h
  rwa [chain_map] at h
theorem cmpI_neg {a b : Int} : cmpI a b < 0 ↔ a < b := by unfold cmpI; split <;> (try split) <;> omega
theorem cmpI_zero {a b : Int} : cmpI a b = 0 ↔ a = b := by unfold cmpI; split <;> (try split) <;> omega
theorem mvLt_iff {a b : Mv} : mvLt a b = true ↔ a.src < b.src ∨ (a.src = b.src ∧ (a.sym < b.sym ∨ (a.sym = b.sym ∧ a.dst < b.dst))) := by
  unfold mvLt mvCmp
  rw [decide_eq_true_eq]
  by_cases h1 : cmpI a.src b.src = 0
  · have e1 := cmpI_zero.1 h1
    by_cases h2 : cmpI a.sym b.sym = 0
    · have e2 := cmpI_zero.1 h2
      have h3 := cmpI_neg (a := a.dst) (b := b.dst)
      by_cases h4 : cmpI a.dst b.dst = 0
      · have e4 := cmpI_zero.1 h4
        simp only [firstNZ, h1, h2, h4, if_true]
        omega
      · simp only [firstNZ, h1, h2, h4, if_true, if_false]
        omega
    · have h3 := cmpI_neg (a := a.sym) (b := b.sym)
      have h4 : ¬ a.sym = b.sym := fun e => h2 (cmpI_zero.2 e)
      simp only [firstNZ, h1, h2, if_true, if_false]
      omega
  · have h3 := cmpI_neg (a := a.src) (b := b.src)
    have h4 : ¬ a.src = b.src := fun e => h1 (cmpI_zero.2 e)
    simp only [firstNZ, h1, if_false]
    omega
theorem pairs_few {n : Nat} {l : List (Nat × Nat)} (hn : l.Nodup) (hl : ∀ p ∈ l, p.1 < n ∧ p.2 < n) : l.length ≤ n * n := by
  have h1 : (l.map fun p => ((p.1 * n + p.2 : Nat) : Int)).Nodup := by
    refine List.pairwise_map.2 (List.Pairwise.imp_of_mem (fun {p q} hp hq hne e => hne ?_) hn)
    have h2 := hl p hp
    have h3 := hl q hq
    have e2 : p.1 * n + p.2 = q.1 * n + q.2 := by exact_mod_cast e
    have e3 : p.1 = q.1 := by
      rcases Nat.lt_trichotomy p.1 q.1 with h | h | h
      · have := Nat.mul_le_mul_right n (show p.1 + 1 ≤ q.1 by omega)
        rw [Nat.succ_mul] at this; omega
      · exact h
      · have := Nat.mul_le_mul_right n (show q.1 + 1 ≤ p.1 by omega)
        rw [Nat.succ_mul] at this; omega
    rw [e3] at e2
    exact Prod.ext e3 (by omega)
  have h2 := nodup_len (n * n) _ h1 fun s hs => by
    obtain ⟨p, hp, rfl⟩ := List.mem_map.1 hs
    have h2 := hl p hp
    have := Nat.mul_le_mul_right n (show p.1 + 1 ≤ n by omega)
    rw [Nat.succ_mul] at this
    omega
  simpa using h2
theorem nodup_of_chain {α : Type} {r : α → α → Bool} {l : List α} (h : chainB r l = true) (hi : ∀ a ∈ l, r a a = false) (ht : ∀ a ∈ l, ∀ b ∈ l, ∀ c ∈ l, r a b = true → r b c = true → r a c = true) : l.Pairwise fun a b => r a b = true := by
  induction l with
  | nil => exact .nil
  | cons x l ih =>
    have h1 : ∀ i a b, (x :: l)[i]? = some a → (x :: l)[i + 1]? = some b → r a b = true := (chainB_iff r _).1 h
    have h2 := ih ((chainB_iff r l).2 fun i a b ha hb => h1 (i + 1) a b ha hb) (fun a ha => hi a (List.mem_cons_of_mem _ ha)) (fun a ha b hb c hc => ht a (List.mem_cons_of_mem _ ha) b (List.mem_cons_of_mem _ hb) c (List.mem_cons_of_mem _ hc))
    refine List.pairwise_cons.2 ⟨fun y hy => ?_, h2⟩
    cases l with
    | nil => simp at hy
    | cons z l =>
      have h3 := h1 0 x z rfl rfl
      rcases List.mem_cons.1 hy with rfl | hy2
      · exact h3
      · exact ht x (by simp) z (by simp) y (List.mem_cons_of_mem _ hy) h3 ((List.pairwise_cons.1 h2).1 y hy2)
theorem flw_pw {l : List Flw} (h : chainB flwLt l = true) : l.Pairwise fun a b => flwCmp a b < 0 := by
  have h1 := nodup_of_chain h (fun a _ => by unfold flwLt; exact decide_eq_false (flwCmp_irrefl a)) (fun a _ b _ c _ h1 h2 => by
    unfold flwLt at *
    exact decide_eq_true (flwCmp_trans (of_decide_eq_true h1) (of_decide_eq_true h2)))
  exact h1.imp fun h => of_decide_eq_true h
theorem GOk.flen {g : Dfg} (h : GOk g) : g.follows.length ≤ 1600 := by
  have h1 : (g.follows.map fun f => (ixN (cnames g.acts) f.src, ixN (cnames g.acts) f.dst)).Nodup := by
    refine List.pairwise_map.2 (List.Pairwise.imp_of_mem (fun {a b} ha hb hlt e => ?_) (flw_pw h.flA))
    have ha' := h.fl a ha
    have hb' := h.fl b hb
    have e1 := ixN_inj ha'.1 hb'.1 (congrArg Prod.fst e)
    have e2 := ixN_inj ha'.2 hb'.2 (congrArg Prod.snd e)
    rw [flwCmp_zero.2 ⟨e1, e2⟩] at hlt
    omega
  have h2 := pairs_few (n := g.acts.length) h1 fun p hp => by
    obtain ⟨f, hf, rfl⟩ := List.mem_map.1 hp
    exact ⟨h.ix (h.fl f hf).1, h.ix (h.fl f hf).2⟩
  rw [List.length_map] at h2
  have := Nat.mul_le_mul h.n40 h.n40
  omega
theorem cnt_few {g : Dfg} (h : GOk g) {l : List Cnt} (hin : ∀ c ∈ l, hasStr (cnames g.acts) c.name = true) (hA : chainB strLt (cnames l) = true) : l.length ≤ g.acts.length := by
  have h1 : (l.map fun c => ((ixN (cnames g.acts) c.name : Nat) : Int)).Nodup := by
    have hp := chain_pw hA
    unfold cnames at hp
    refine List.pairwise_map.2 (List.Pairwise.imp_of_mem (fun {a b} ha hb hlt e => ?_) (List.pairwise_map.1 hp))
    have := ixN_mono h.asc (hin a ha) (hin b hb) hlt
    omega
  have h2 := nodup_len g.acts.length _ h1 fun s hs => by
    obtain ⟨c, hc, rfl⟩ := List.mem_map.1 hs
    have := h.ix (hin c hc)
    omega
  simpa using h2
theorem all_of {α : Type} {p : α → Bool} {l : List α} (h : ∀ x ∈ l, p x = true) : l.all p = true := List.all_eq_true.2 h
theorem autG_ok {g : Dfg} (h : GOk g) : autOk (autG g) = true := by
  have h40 := h.n40
  have hfl := h.flen
  have hsl := cnt_few h h.st h.stA
  have hm : (autG g).moves.length ≤ 20000 := by
    show (g.starts.map _ ++ g.follows.map _).length ≤ _
    rw [List.length_append, List.length_map, List.length_map]; omega
  have hst : stOk (autG g).n (autG g).start = true := by
    show stOk ((g.acts.length : Nat) + 1) [0] = true
    unfold stOk
    simp only [List.all_cons, List.all_nil, Bool.and_true, chainB]
    simp
  have hfi : stOk (autG g).n (autG g).fin = true := by
    show stOk ((g.acts.length : Nat) + 1) (g.ends.map (finE (cnames g.acts))) = true
    unfold stOk
    rw [Bool.and_eq_true]
    refine ⟨all_of fun x hx => ?_, chainB_map (cnames_chain h.enA) fun a ha b hb hlt => ?_⟩
    · obtain ⟨c, hc, rfl⟩ := List.mem_map.1 hx
      have := h.ix (h.en c hc)
      unfold finE
      simp only [Bool.and_eq_true, decide_eq_true_eq]
      omega
    · have := ixN_mono h.asc (h.en a ha) (h.en b hb) hlt
      unfold finE ltI
      exact decide_eq_true (by omega)
  have hmv : (autG g).moves.all (mvOk (autG g)) = true := all_of fun m hm => by
    have hn : (autG g).n = (g.acts.length : Nat) + 1 := rfl
    have hs : (autG g).syms = (g.acts.length : Nat) := rfl
    unfold mvOk
    rw [hn, hs]
    simp only [Bool.and_eq_true, decide_eq_true_eq]
    rcases List.mem_append.1 hm with h1 | h1
    · obtain ⟨c, hc, rfl⟩ := List.mem_map.1 h1
      have := h.ix (h.st c hc)
      unfold moveS
      dsimp only
      omega
    · obtain ⟨f, hf, rfl⟩ := List.mem_map.1 h1
      have := h.ix (h.fl f hf).1
      have := h.ix (h.fl f hf).2
      unfold moveF
      dsimp only
      omega
  have hch : chainB mvLt (autG g).moves = true := by
    refine chainB_app (chainB_map (cnames_chain h.stA) fun a ha b hb hlt => ?_) (chainB_map h.flA fun a ha b hb hlt => ?_) fun x hx y hy => ?_
    · have := ixN_mono h.asc (h.st a ha) (h.st b hb) hlt
      rw [mvLt_iff]
      unfold moveS
      dsimp only
      omega
    · unfold flwLt at hlt
      have hlt' := flwCmp_neg.1 (of_decide_eq_true hlt)
      rw [mvLt_iff]
      unfold moveF
      dsimp only
      rcases hlt' with h1 | ⟨h1, h2⟩
      · have := ixN_mono h.asc (h.fl a ha).1 (h.fl b hb).1 h1
        omega
      · have := ixN_mono h.asc (h.fl a ha).2 (h.fl b hb).2 h2
        rw [h1]
        omega
    · obtain ⟨c, hc, rfl⟩ := List.mem_map.1 hx
      obtain ⟨f, hf, rfl⟩ := List.mem_map.1 hy
      rw [mvLt_iff]
      unfold moveS moveF
      dsimp only
      omega
  unfold autOk
  have hn : (autG g).n = (g.acts.length : Nat) + 1 := rfl
  have hs : (autG g).syms = (g.acts.length : Nat) := rfl
  rw [hst, hfi, hmv, hch, hn, hs, decide_eq_true (by omega : (0 : Int) ≤ (g.acts.length : Nat) + 1), decide_eq_true (by omega : ((g.acts.length : Nat) : Int) + 1 ≤ 2000), decide_eq_true (by omega : (0 : Int) ≤ (g.acts.length : Nat)), decide_eq_true (by omega : ((g.acts.length : Nat) : Int) ≤ 40), decide_eq_true hm]; rfl
structure AOk (a : Aut) : Prop where
  n0 : 0 ≤ a.n
  n1 : a.n ≤ 2000
  s0 : 0 ≤ a.syms
  s1 : a.syms ≤ 40
  ml : a.moves.length ≤ 20000
  st : InS a a.start
  fi : InS a a.fin
  sl : a.start.length ≤ 2000
  fl : a.fin.length ≤ 2000
  mv : ∀ m ∈ a.moves, 0 ≤ m.src ∧ m.src < a.n ∧ 0 ≤ m.dst ∧ m.dst < a.n ∧ -1 ≤ m.sym ∧ m.sym < a.syms
theorem AOk.mi {a : Aut} (h : AOk a) : MvIn a := fun m hm => by have := h.mv m hm; omega
theorem stOk_in {n : Int} {l : List Int} (h : stOk n l = true) : ∀ s ∈ l, 0 ≤ s ∧ s < n := fun s hs => by
  unfold stOk at h
  simp only [Bool.and_eq_true, List.all_eq_true, decide_eq_true_eq] at h
  exact h.1 s hs
theorem stOk_len {n : Int} {l : List Int} (h : stOk n l = true) (h0 : 0 ≤ n) (hn : n ≤ 2000) : l.length ≤ 2000 := by
  have h1 := stOk_in h
  unfold stOk at h
  simp only [Bool.and_eq_true] at h
  have h2 := nodup_of_chain h.2 (fun a _ => by unfold ltI; exact decide_eq_false (by omega)) (fun a _ b _ c _ h1 h2 => by
    unfold ltI at *
    simp only [decide_eq_true_eq] at *
    omega)
  have := nodup_len 2000 l (h2.imp fun h => by unfold ltI at h; simp only [decide_eq_true_eq] at h; omega) fun s hs => by have := h1 s hs; omega
  exact this
theorem aok_of {a : Aut} (h : autOk a = true) : AOk a := by
  unfold autOk at h
  simp only [Bool.and_eq_true, decide_eq_true_eq] at h
  obtain ⟨⟨⟨⟨⟨⟨⟨⟨h1, h2⟩, h3⟩, h4⟩, h5⟩, h6⟩, h7⟩, h8⟩, h9⟩ := h
  refine ⟨h1, h2, h3, h4, h5, stOk_in h6, stOk_in h7, stOk_len h6 h1 h2, stOk_len h7 h1 h2, fun m hm => ?_⟩
  have := List.all_eq_true.1 h8 m hm
  unfold mvOk at this
  simp only [Bool.and_eq_true, decide_eq_true_eq] at this
  omega
end Go.Proofs.YtebcjijpdhbcdaaGreat
