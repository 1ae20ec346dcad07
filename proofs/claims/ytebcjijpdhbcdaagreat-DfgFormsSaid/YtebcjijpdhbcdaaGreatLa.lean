/-
  Walks: names, alphabets; searching lists of strings (package name, the reference's layer 2, package slices).
  Walks: slices.IndexFunc, slices.ContainsFunc, at the element types of the program.
  Walks: lists of variants: which are valid, which are the same; what is small enough for the laws of the cut chapter.
  Walks: directly-follows graphs: which are valid (package dfg).
-/
import Derived.Test.YtebcjijpdhbcdaaGreatProg
import Derived.Test.YtebcjijpdhbcdaaGreatEngb
namespace Go.Proofs.YtebcjijpdhbcdaaGreat
open Go.RowKit Go.Cb Go.En
set_option linter.all false
set_option maxRecDepth 100000

theorem tNa51_LbA : NoAgg Tryz.prog 51 = true := by kernel_rfl
theorem tNa9_LbA : NoAgg Tryz.prog 9 = true := by kernel_rfl
theorem tSl36_LbA : SlT Tryz.prog 36 51 1 = true := by kernel_rfl
theorem tSl51_LbA : SlT Tryz.prog 51 9 1 = true := by kernel_rfl

abbrev pU8 (n : Int) : PV := .val (.int .u8 n)
theorem bool_val {a b : Bool} (h : a = true ↔ b = true) : pBool a = pBool b := by rw [Bool.eq_iff_iff.2 h]

theorem lt_of_arr {s : ByteArray} {i : Nat} {x : UInt8} (h : s.data[i]? = some x) : i < s.size := by
  rcases Nat.lt_or_ge i s.size with h1 | h1
  · exact h1
  · rw [Array.getElem?_eq_none h1] at h; cases h
theorem byte_at {s : ByteArray} {i : Nat} (h : i < s.size) : ∃ y, s.data[i]? = some y := ⟨s.data[i]'h, Array.getElem?_eq_getElem h⟩
theorem isName_short {s : ByteArray} (h : s.size < 1 ∨ 40 < s.size) : isName s = false := by
  unfold isName
  rcases h with h | h
  · rw [decide_eq_false (show ¬ 1 ≤ s.size by omega)]; simp
  · rw [decide_eq_false (show ¬ s.size ≤ 40 by omega)]; simp
theorem isName_let {s : ByteArray} {y : UInt8} (h0 : s.data[0]? = some y) (h : letterB y.toNat = false) : isName s = false := by
  unfold isName; rw [h0, Option.getD_some, h]; simp
theorem isName_bad {s : ByteArray} {k : Nat} {y : UInt8} (hy : s.data[k]? = some y) (h : partB y.toNat = false) : isName s = false := by
  unfold isName
  rw [Bool.and_eq_false_iff]; right
  rw [List.all_eq_false]
  exact ⟨y, Array.mem_toList_iff.2 (Array.mem_of_getElem? hy), by rw [h]; simp⟩
theorem isName_good {s : ByteArray} {y : UInt8} (h1 : 1 ≤ s.size) (h2 : s.size ≤ 40) (h0 : s.data[0]? = some y) (hl : letterB y.toNat = true) (h : ∀ j z, j < s.size → s.data[j]? = some z → partB z.toNat = true) : isName s = true := by
  unfold isName
  rw [h0, Option.getD_some, hl, decide_eq_true h1, decide_eq_true h2]
  simp only [Bool.and_self, Bool.true_and, List.all_eq_true]
  intro x hx
  obtain ⟨i, hi⟩ := Array.getElem?_of_mem (Array.mem_toList_iff.1 hx)
  exact h i x (lt_of_arr hi) hi

theorem letter_e (c : Int) : AF Tryz.prog 126 [pU8 c] (· = pBool (letterB c)) := by
  refine AF.of_body 17 Tryz.func126 rfl Tryz.ntmps126 (Nat.le_of_ble_eq_true rfl) ?_
  intro w0 M0 vs hl hv
  obtain ⟨v0, rfl⟩ := len1 hl
  obtain rfl := hv 0 _ _ rfl rfl
  clear hl hv
  refine nav ?_
  (refine aC_region ?_
    <;> refine xL 2 q_assign ?_
    <;> refine aL_end (nav ?_) <;> try dsimp only)
  (refine aC_region ?_
    <;> refine xL 3 q_move ?_
    <;> refine xL 4 q_geq ?_
    <;> refine xL 5 q_move ?_
    <;> (refine bLd 5 (fun hb5 => ?_) (fun hb5 => ?_) <;> (first | refine kL 6 ?_ | refine xL 6 q_move ?_))
    <;> (first | refine kL 7 ?_ | refine xL 7 q_leq ?_)
    <;> refine xL 8 q_pick ?_
    <;> refine xL 9 q_move ?_
    <;> (first | refine xL 10 q_move ?_ | (refine bLd 9 (fun hb9 => ?_) (fun hb9 => ?_) <;> (first | refine kL 10 ?_ | refine xL 10 q_move ?_)))
    <;> (first | refine kL 11 ?_ | refine xL 11 q_geq ?_)
    <;> (first | refine kL 12 ?_ | refine xL 12 q_move ?_)
    <;> (first | refine kL 13 ?_ | (refine bLd 12 (fun hb12 => ?_) (fun hb12 => ?_) <;> (first | refine kL 13 ?_ | refine xL 13 q_move ?_)))
    <;> (first | refine kL 14 ?_ | refine xL 14 q_leq ?_)
    <;> (first | refine kL 15 ?_ | refine xL 15 q_pick ?_)
    <;> refine xL 16 q_pick ?_
    <;> refine xL 2 q_assign ?_
    <;> refine aL_end (nav ?_) <;> try dsimp only) <;> (
   refine ret_shr (Tryz.results126) rfl (bool_val ?_)
   simp only [letterB, Bool.or_eq_true, Bool.and_eq_true, decide_eq_true_eq, true_iff, false_iff, Bool.false_eq_true] <;> omega)
theorem part_e (c : Int) : AF Tryz.prog 127 [pU8 c] (· = pBool (partB c)) := by
  refine AF.of_body 25 Tryz.func127 rfl Tryz.ntmps127 (Nat.le_of_ble_eq_true rfl) ?_
  intro w0 M0 vs hl hv
  obtain ⟨v0, rfl⟩ := len1 hl
  obtain rfl := hv 0 _ _ rfl rfl
  clear hl hv
  refine nav ?_
  (refine aC_region ?_
    <;> refine xL 2 q_assign ?_
    <;> refine aL_end (nav ?_) <;> try dsimp only)
  (refine aC_region ?_
    <;> refine xL 3 q_move ?_
    <;> (refine cS 4 (cA Tryz.call126 (letter_e c)) fun v4 hv4 => ?_; cases hv4)
    <;> refine xL 5 q_move ?_
    <;> (refine bL 5 (fun hb5 => ?_) (fun hb5 => ?_) <;> (first | refine kL 6 ?_ | refine xL 6 q_move ?_))
    <;> (first | refine kL 7 ?_ | refine xL 7 q_geq ?_)
    <;> (first | refine kL 8 ?_ | refine xL 8 q_move ?_)
    <;> (first | refine kL 9 ?_ | (refine bLd 8 (fun hb8 => ?_) (fun hb8 => ?_) <;> (first | refine kL 9 ?_ | refine xL 9 q_move ?_)))
    <;> (first | refine kL 10 ?_ | refine xL 10 q_leq ?_)
    <;> (first | refine kL 11 ?_ | refine xL 11 q_pick ?_)
    <;> refine xL 12 q_pick ?_
    <;> refine xL 13 q_move ?_
    <;> (first | refine kL 14 ?_ | refine xL 14 q_move ?_ | (refine bLd 13 (fun hb13 => ?_) (fun hb13 => ?_) <;> (first | refine kL 14 ?_ | refine xL 14 q_move ?_)))
    <;> (first | refine kL 15 ?_ | refine xL 15 q_eql ?_)
    <;> refine xL 16 q_pick ?_
    <;> refine xL 17 q_move ?_
    <;> (first | refine kL 18 ?_ | (refine bLd 17 (fun hb17 => ?_) (fun hb17 => ?_) <;> (first | refine kL 18 ?_ | refine xL 18 q_move ?_)))
    <;> (first | refine kL 19 ?_ | refine xL 19 q_eql ?_)
    <;> refine xL 20 q_pick ?_
    <;> refine xL 21 q_move ?_
    <;> (first | refine kL 22 ?_ | (refine bLd 21 (fun hb21 => ?_) (fun hb21 => ?_) <;> (first | refine kL 22 ?_ | refine xL 22 q_move ?_)))
    <;> (first | refine kL 23 ?_ | refine xL 23 q_eql ?_)
    <;> refine xL 24 q_pick ?_
    <;> refine xL 2 q_assign ?_
    <;> refine aL_end (nav ?_) <;> try dsimp only) <;> (
   refine ret_shr (Tryz.results127) rfl (bool_val ?_)
   simp only [partB, Bool.or_eq_true, Bool.and_eq_true, decide_eq_true_eq, true_iff, false_iff, Bool.false_eq_true, beq_iff_eq] <;> simp_all <;> omega)
theorem isName_e (s : ByteArray) (hs : s.size ≤ 9223372036854775807) : AF Tryz.prog 98 [pStr s] (· = pBool (isName s)) := by
  refine AF.of_body 29 Tryz.func98 rfl Tryz.ntmps98 (Nat.le_of_ble_eq_true rfl) ?_
  intro w0 M0 vs hl hv
  obtain ⟨v0, rfl⟩ := len1 hl
  obtain rfl := hv 0 _ _ rfl rfl
  clear hl hv
  refine nav ?_
  (refine aC_region ?_
    <;> refine xL 2 q_assign ?_
    <;> refine aL_end (nav ?_) <;> try dsimp only)
  (refine aC_region ?_
    <;> refine xL 4 q_move ?_
    <;> refine xL 5 (q_slen Tryz.underlying9) ?_
    <;> refine xL 6 q_lss ?_
    <;> refine xL 7 q_move ?_
    <;> (refine bLd 7 (fun hb7 => ?_) (fun hb7 => ?_) <;> (first | refine kL 8 ?_ | refine xL 8 q_move ?_))
    <;> (first | refine kL 9 ?_ | refine xL 9 (q_slen Tryz.underlying9) ?_)
    <;> (first | refine kL 10 ?_ | refine xL 10 q_gtr ?_)
    <;> refine xL 11 q_pick ?_
    <;> refine xL 12 q_move ?_
    <;> (first | refine kL 13 ?_ | (refine bLd 12 (fun hb12 => ?_) (fun hb12 => ?_) <;> (first | refine kL 13 ?_ | refine xL 13 q_move ?_)))
    <;> (first | refine kL 14 ?_ | (refine (byte_at (i := 0) (s := s) (by omega)).elim fun y0 hy0 => ?_; refine xL 14 (q_index Tryz.underlying9) ?_))
    <;> (first | refine kL 15 ?_ | (refine cS 15 (cA Tryz.call126 (letter_e y0.toNat)) fun v15 hv15 => ?_; cases hv15))
    <;> (first | refine kL 16 ?_ | refine xL 16 q_not ?_)
    <;> refine xL 17 q_pick ?_
    <;> refine aL_end (nav ?_) <;> try dsimp only) <;> (
   first | refine cCd (fun hb17 => ?_) (fun hb17 => ?_) | refine cC (fun hb17 => ?_) (fun hb17 => ?_)
   · first
     | exact Bool.noConfusion hb17
     | (
      refine nav ?_
      (refine aC_region ?_
        <;> refine xL 2 q_assign ?_
        <;> refine aL_end (nav ?_) <;> try dsimp only)
      refine ret_shr (Tryz.results98) rfl ?_
      first | rw [isName_short (by omega)] | rw [isName_let hy0 (by simpa using hb17)])
   · first
     | exact Bool.noConfusion hb17
     | (
      refine nav ?_
      (refine aC_region ?_
        <;> refine xL 18 q_move ?_
        <;> refine xL 19 (q_slen Tryz.underlying9) ?_
        <;> refine xL 20 q_move ?_
        <;> refine aL_end (nav ?_) <;> try dsimp only)
      refine aC_loop (ι := { k : Nat // k ≤ s.size ∧ ∀ j y, j < k → s.data[j]? = some y → partB y.toNat = true }) (fun k => ⟨[(0, _, _), (19, _, _), (20, .int .i64 k.1, pInt k.1)], []⟩) (fun k => s.size - k.1) ⟨0, by omega, by omega⟩ (fun a w H => H.weaken ⟨rfl, rfl, rfl, trivial⟩ trivial) ?_
      rintro ⟨k, hk, hp⟩
      dsimp only
      refine nav ?_
      (refine aC_region ?_
        <;> refine xL 21 q_lss ?_
        <;> refine aL_end (nav ?_) <;> try dsimp only)
      first | refine cCd (fun hb21 => ?_) (fun hb21 => ?_) | refine cC (fun hb21 => ?_) (fun hb21 => ?_)
      · first
        | exact Bool.noConfusion hb21
        | (
         have hlt : k < s.size := by omega
         obtain ⟨y, hy⟩ := byte_at (s := s) (i := k) (by omega)
         refine nav ?_
         (refine aC_region ?_
           <;> refine xL 22 q_move ?_
           <;> refine xL 3 q_assign ?_
           <;> refine aL_end (nav ?_) <;> try dsimp only)
         (refine aC_region ?_
           <;> refine xL 23 q_move ?_
           <;> refine xL 24 q_move ?_
           <;> refine xL 25 (q_index Tryz.underlying9) ?_
           <;> (refine cS 26 (cA Tryz.call127 (part_e y.toNat)) fun v26 hv26 => ?_; cases hv26)
           <;> refine xL 27 q_not ?_
           <;> refine aL_end (nav ?_) <;> try dsimp only)
         first | refine cCd (fun hb27 => ?_) (fun hb27 => ?_) | refine cC (fun hb27 => ?_) (fun hb27 => ?_)
         · first
           | exact Bool.noConfusion hb27
           | (
            refine nav ?_
            (refine aC_region ?_
              <;> refine xL 2 q_assign ?_
              <;> refine aL_end (nav ?_) <;> try dsimp only)
            refine ret_shr (Tryz.results98) rfl ?_
            rw [isName_bad hy (by simpa using hb27)])
         · first
           | exact Bool.noConfusion hb27
           | (
            refine nav ?_
            (refine aC_region ?_
              <;> refine xL 28 q_add ?_
              <;> refine xL 20 q_move ?_
              <;> refine aL_end (nav ?_) <;> try dsimp only)
            refine aN_again (
              ⟨k + 1, by omega, fun j z hj hz => by
                by_cases e : j = k
                · subst e; rw [hy] at hz; cases hz; simpa using hb27
                · exact hp j z (by omega) hz⟩
              ) (by dsimp only; omega) ⟨rfl, rfl, rfl, trivial⟩ trivial))
      · first
        | exact Bool.noConfusion hb21
        | (
         refine nav ?_
         (refine aC_region ?_
           <;> refine xL 2 q_assign ?_
           <;> refine aL_end (nav ?_) <;> try dsimp only)
         refine ret_shr (Tryz.results98) rfl ?_
         rw [isName_good (by omega) (by omega) hy0 (by simpa using hb17) (fun j z hj hz => hp j z (by omega) hz)])))
theorem all_stop {α : Type} {p : α → Bool} {l : List α} {k : Nat} {x : α} (hx : l[k]? = some x) (h : p x = false) : l.all p = false := List.all_eq_false.2 ⟨x, List.mem_of_getElem? hx, by rw [h]; simp⟩
theorem all_end {α : Type} {p : α → Bool} {l : List α} (h : ∀ (j : Nat) x, l[j]? = some x → p x = true) : l.all p = true := List.all_eq_true.2 fun x hx => by
  obtain ⟨j, hj⟩ := List.getElem?_of_mem hx
  exact h j x hj
def alphaB (l : List ByteArray) : Bool := decide (l.length ≤ 40) && l.all isName && chainB strLt l
theorem alpha_long {l : List ByteArray} (h : 40 < l.length) : alphaB l = false := by unfold alphaB; rw [decide_eq_false (show ¬ l.length ≤ 40 by omega)]; simp
theorem alpha_name {l : List ByteArray} {k : Nat} {x : ByteArray} (hx : l[k]? = some x) (h : isName x = false) : alphaB l = false := by unfold alphaB; rw [all_stop hx h]; simp
theorem alpha_chain {l : List ByteArray} {k : Nat} {x y : ByteArray} (hk : 1 ≤ k) (hy : l[k - 1]? = some y) (hx : l[k]? = some x) (h : strLt y x = false) : alphaB l = false := by unfold alphaB; rw [chainB_stop hk hy hx h]; simp
theorem alphabet_e (l : List ByteArray) (hf : ∀ s ∈ l, s.size ≤ 140737488355328) : AF Tryz.prog 54 [pStrs l] (· = pBool (alphaB l)) := by
  refine AF.of_body 32 Tryz.func54 rfl Tryz.ntmps54 (Nat.le_of_ble_eq_true rfl) ?_
  intro w0 M0 vs hl hv
  obtain ⟨v0, rfl⟩ := len1 hl
  clear hl hv
  refine aC_slen 0 rfl fun hlen => ?_
  refine nav ?_
  (refine aC_region ?_
    <;> refine xL 2 q_assign ?_
    <;> refine aL_end (nav ?_) <;> try dsimp only)
  (refine aC_region ?_
    <;> refine xL 5 q_move ?_
    <;> refine xL 6 (q_len tSl51_LbA) ?_
    <;> refine xL 7 q_gtr ?_
    <;> refine aL_end (nav ?_) <;> try dsimp only)
  first | refine cCd (fun hb7 => ?_) (fun hb7 => ?_) | refine cC (fun hb7 => ?_) (fun hb7 => ?_)
  · first
    | exact Bool.noConfusion hb7
    | (
     refine nav ?_
     (refine aC_region ?_
       <;> refine xL 2 q_assign ?_
       <;> refine aL_end (nav ?_) <;> try dsimp only)
     refine ret_shr (Tryz.results54) rfl ?_
     rw [alpha_long (by omega)])
  · first
    | exact Bool.noConfusion hb7
    | (
     refine nav ?_
     (refine aC_region ?_
       <;> refine xL 8 q_move ?_
       <;> refine xL 9 (q_len tSl51_LbA) ?_
       <;> refine xL 10 q_move ?_
       <;> refine aL_end (nav ?_) <;> try dsimp only)
     refine aC_loop (ι := { k : Nat // k ≤ l.length ∧ ∀ j x, j < k → l[j]? = some x → isName x = true ∧ ∀ y, 1 ≤ j → l[j - 1]? = some y → strLt y x = true }) (fun k => ⟨[(0, _, _), (8, _, _), (9, _, _), (10, .int .i64 k.1, pInt k.1)], []⟩) (fun k => l.length - k.1) ⟨0, by omega, by omega⟩ (fun a w H => H.weaken ⟨rfl, rfl, rfl, rfl, trivial⟩ trivial) ?_
     rintro ⟨k, hk, hp⟩
     dsimp only
     refine nav ?_
     (refine aC_region ?_
       <;> refine xL 11 q_lss ?_
       <;> refine aL_end (nav ?_) <;> try dsimp only)
     first | refine cCd (fun hb11 => ?_) (fun hb11 => ?_) | refine cC (fun hb11 => ?_) (fun hb11 => ?_)
     · first
       | exact Bool.noConfusion hb11
       | (
        have hlt : k < l.length := by omega
        obtain ⟨x, hx⟩ := get_some hlt
        obtain ⟨y, hy⟩ := get_some (show k - 1 < l.length by omega)
        have e1 := map_at (f := pStr) hx
        have e2 : (l.map pStr)[((k : Int) - 1).toNat * 1]? = some (pStr y) := by rw [show ((k : Int) - 1).toNat * 1 = k - 1 by omega]; exact (by rw [List.getElem?_map, hy]; rfl)
        have hxs := hf x (List.mem_of_getElem? hx)
        refine nav ?_
        (refine aC_region ?_
          <;> refine xL 12 q_move ?_
          <;> refine xL 13 (q_idxN tSl51_LbA) ?_
          <;> (refine yL 14 (q_ld tNa9_LbA) fun v14 hv14 => ?_; cases hv14)
          <;> refine xL 3 q_assign ?_
          <;> refine xL 4 q_assign ?_
          <;> refine aL_end (nav ?_) <;> try dsimp only)
        (refine aC_region ?_
          <;> refine xL 15 q_move ?_
          <;> (refine cS 16 (cA Tryz.call98 (isName_e x (by omega))) fun v16 hv16 => ?_; cases hv16)
          <;> refine xL 17 q_not ?_
          <;> refine xL 18 q_move ?_
          <;> (refine bL 18 (fun hb18 => ?_) (fun hb18 => ?_) <;> (first | refine kL 19 ?_ | refine xL 19 q_move ?_))
          <;> (first | refine kL 20 ?_ | refine xL 20 q_gtr ?_)
          <;> (first | refine kL 21 ?_ | refine xL 21 q_move ?_)
          <;> (first | refine kL 22 ?_ | (refine bLd 21 (fun hb21 => ?_) (fun hb21 => ?_) <;> (first | refine kL 22 ?_ | refine xL 22 q_move ?_)))
          <;> (first | refine kL 23 ?_ | refine xL 23 q_move ?_)
          <;> (first | refine kL 24 ?_ | refine xL 24 q_sub ?_)
          <;> (first | refine kL 25 ?_ | refine xL 25 (q_idx tSl51_LbA) ?_)
          <;> (first | refine kL 26 ?_ | (refine yL 26 (q_ld tNa9_LbA) fun v26 hv26 => ?_; cases hv26))
          <;> (first | refine kL 27 ?_ | refine xL 27 q_move ?_)
          <;> (first | refine kL 28 ?_ | refine xL 28 q_sgeq ?_)
          <;> (first | refine kL 29 ?_ | refine xL 29 q_pick ?_)
          <;> refine xL 30 q_pick ?_
          <;> refine aL_end (nav ?_) <;> try dsimp only) <;> (
         first | refine cCd (fun hb30 => ?_) (fun hb30 => ?_) | refine cC (fun hb30 => ?_) (fun hb30 => ?_)
         · first
           | exact Bool.noConfusion hb30
           | (
            refine nav ?_
            (refine aC_region ?_
              <;> refine xL 2 q_assign ?_
              <;> refine aL_end (nav ?_) <;> try dsimp only)
            refine ret_shr (Tryz.results54) rfl ?_
            first | rw [alpha_name hx (by simpa using hb18)] | rw [alpha_chain (by omega) hy hx (by simpa [strLt] using hb30)])
         · first
           | exact Bool.noConfusion hb30
           | (
            refine nav ?_
            (refine aC_region ?_
              <;> refine xL 31 q_add ?_
              <;> refine xL 10 q_move ?_
              <;> refine aL_end (nav ?_) <;> try dsimp only)
            refine aN_again (
              ⟨k + 1, by omega, fun j z hj hz => by
                by_cases e : j = k
                · subst e; rw [hx] at hz; cases hz
                  refine ⟨by simpa using hb18, fun y' h1 hy' => ?_⟩
                  rw [hy] at hy'; cases hy'
                  first | omega | simpa [strLt] using hb30
                · exact hp j z (by omega) hz⟩
              ) (by dsimp only; omega) ⟨rfl, rfl, rfl, rfl, trivial⟩ trivial)))
     · first
       | exact Bool.noConfusion hb11
       | (
        refine nav ?_
        (refine aC_region ?_
          <;> refine xL 2 q_assign ?_
          <;> refine aL_end (nav ?_) <;> try dsimp only)
        refine ret_shr (Tryz.results54) rfl ?_
        have h1 : l.all isName = true := all_end fun j x hj => (hp j x (by have := lt_of_get hj; omega) hj).1
        have h2 : chainB strLt l = true := chainB_end fun j x y h1 hy hx => (hp j x (by have := lt_of_get hx; omega) hx).2 y h1 hy
        unfold alphaB; rw [h1, h2, decide_eq_true (show l.length ≤ 40 by omega)]; rfl))
theorem rLetter_e (c : Int) : AF Tryz.prog 135 [pU8 c] (· = pBool (letterB c)) := by
  refine AF.of_body 17 Tryz.func135 rfl Tryz.ntmps135 (Nat.le_of_ble_eq_true rfl) ?_
  intro w0 M0 vs hl hv
  obtain ⟨v0, rfl⟩ := len1 hl
  obtain rfl := hv 0 _ _ rfl rfl
  clear hl hv
  refine nav ?_
  (refine aC_region ?_
    <;> refine xL 2 q_assign ?_
    <;> refine aL_end (nav ?_) <;> try dsimp only)
  (refine aC_region ?_
    <;> refine xL 3 q_move ?_
    <;> refine xL 4 q_geq ?_
    <;> refine xL 5 q_move ?_
    <;> (refine bLd 5 (fun hb5 => ?_) (fun hb5 => ?_) <;> (first | refine kL 6 ?_ | refine xL 6 q_move ?_))
    <;> (first | refine kL 7 ?_ | refine xL 7 q_leq ?_)
    <;> refine xL 8 q_pick ?_
    <;> refine xL 9 q_move ?_
    <;> (first | refine xL 10 q_move ?_ | (refine bLd 9 (fun hb9 => ?_) (fun hb9 => ?_) <;> (first | refine kL 10 ?_ | refine xL 10 q_move ?_)))
    <;> (first | refine kL 11 ?_ | refine xL 11 q_geq ?_)
    <;> (first | refine kL 12 ?_ | refine xL 12 q_move ?_)
    <;> (first | refine kL 13 ?_ | (refine bLd 12 (fun hb12 => ?_) (fun hb12 => ?_) <;> (first | refine kL 13 ?_ | refine xL 13 q_move ?_)))
    <;> (first | refine kL 14 ?_ | refine xL 14 q_leq ?_)
    <;> (first | refine kL 15 ?_ | refine xL 15 q_pick ?_)
    <;> refine xL 16 q_pick ?_
    <;> refine xL 2 q_assign ?_
    <;> refine aL_end (nav ?_) <;> try dsimp only) <;> (
   refine ret_shr (Tryz.results135) rfl (bool_val ?_)
   simp only [letterB, Bool.or_eq_true, Bool.and_eq_true, decide_eq_true_eq, true_iff, false_iff, Bool.false_eq_true] <;> omega)
theorem rIsName_e (s : ByteArray) (hs : s.size ≤ 9223372036854775807) : AF Tryz.prog 112 [pStr s] (· = pBool (isName s)) := by
  refine AF.of_body 52 Tryz.func112 rfl Tryz.ntmps112 (Nat.le_of_ble_eq_true rfl) ?_
  intro w0 M0 vs hl hv
  obtain ⟨v0, rfl⟩ := len1 hl
  obtain rfl := hv 0 _ _ rfl rfl
  clear hl hv
  refine nav ?_
  (refine aC_region ?_
    <;> refine xL 2 q_assign ?_
    <;> refine aL_end (nav ?_) <;> try dsimp only)
  (refine aC_region ?_
    <;> refine xL 5 q_move ?_
    <;> refine xL 6 (q_slen Tryz.underlying9) ?_
    <;> refine xL 7 q_lss ?_
    <;> refine xL 8 q_move ?_
    <;> (refine bLd 8 (fun hb8 => ?_) (fun hb8 => ?_) <;> (first | refine kL 9 ?_ | refine xL 9 q_move ?_))
    <;> (first | refine kL 10 ?_ | refine xL 10 (q_slen Tryz.underlying9) ?_)
    <;> (first | refine kL 11 ?_ | refine xL 11 q_gtr ?_)
    <;> refine xL 12 q_pick ?_
    <;> refine xL 13 q_move ?_
    <;> (first | refine kL 14 ?_ | (refine bLd 13 (fun hb13 => ?_) (fun hb13 => ?_) <;> (first | refine kL 14 ?_ | refine xL 14 q_move ?_)))
    <;> (first | refine kL 15 ?_ | (refine (byte_at (i := 0) (s := s) (by omega)).elim fun y0 hy0 => ?_; refine xL 15 (q_index Tryz.underlying9) ?_))
    <;> (first | refine kL 16 ?_ | (refine cS 16 (cA Tryz.call135 (rLetter_e y0.toNat)) fun v16 hv16 => ?_; cases hv16))
    <;> (first | refine kL 17 ?_ | refine xL 17 q_not ?_)
    <;> refine xL 18 q_pick ?_
    <;> refine aL_end (nav ?_) <;> try dsimp only) <;> (
   first | refine cCd (fun hb18 => ?_) (fun hb18 => ?_) | refine cC (fun hb18 => ?_) (fun hb18 => ?_)
   · first
     | exact Bool.noConfusion hb18
     | (
      refine nav ?_
      (refine aC_region ?_
        <;> refine xL 2 q_assign ?_
        <;> refine aL_end (nav ?_) <;> try dsimp only)
      refine ret_shr (Tryz.results112) rfl ?_
      first | rw [isName_short (by omega)] | rw [isName_let hy0 (by simpa using hb18)])
   · first
     | exact Bool.noConfusion hb18
     | (
      refine nav ?_
      (refine aC_region ?_
        <;> refine xL 3 q_assign ?_
        <;> refine aL_end (nav ?_) <;> try dsimp only)
      have h0 : ∀ (j : Nat) z, j < 1 → s.data[j]? = some z → partB z.toNat = true := fun j z hj hz => by
        obtain rfl : j = 0 := by omega
        rw [hy0] at hz; cases hz
        unfold partB; rw [show letterB y0.toNat = true by simpa using hb18]; rfl
      refine aC_loop (ι := { k : Nat // 1 ≤ k ∧ k ≤ s.size ∧ ∀ j y, j < k → s.data[j]? = some y → partB y.toNat = true }) (fun k => ⟨[(0, _, _), (3, .int .i64 k.1, pInt k.1)], []⟩) (fun k => s.size - k.1) ⟨1, by omega, by omega, h0⟩ (fun a w H => H.weaken ⟨rfl, rfl, trivial⟩ trivial) ?_
      rintro ⟨k, hk1, hk, hp⟩
      dsimp only
      refine nav ?_
      (refine aC_region ?_
        <;> refine xL 19 q_move ?_
        <;> refine xL 20 q_move ?_
        <;> refine xL 21 (q_slen Tryz.underlying9) ?_
        <;> refine xL 22 q_lss ?_
        <;> refine aL_end (nav ?_) <;> try dsimp only)
      first | refine cCd (fun hb22 => ?_) (fun hb22 => ?_) | refine cC (fun hb22 => ?_) (fun hb22 => ?_)
      · first
        | exact Bool.noConfusion hb22
        | (
         have hlt : k < s.size := by omega
         obtain ⟨y, hy⟩ := byte_at (s := s) (i := k) (by omega)
         refine nav ?_
         (refine aC_region ?_
           <;> refine xL 25 q_move ?_
           <;> refine xL 26 q_move ?_
           <;> refine xL 27 (q_index Tryz.underlying9) ?_
           <;> refine xL 4 q_assign ?_
           <;> refine aL_end (nav ?_) <;> try dsimp only)
         (refine aC_region ?_
           <;> refine xL 28 q_move ?_
           <;> (refine cS 29 (cA Tryz.call135 (rLetter_e y.toNat)) fun v29 hv29 => ?_; cases hv29)
           <;> refine xL 30 q_not ?_
           <;> refine xL 31 q_move ?_
           <;> (refine bL 31 (fun hb31 => ?_) (fun hb31 => ?_) <;> (first | refine kL 32 ?_ | refine xL 32 q_move ?_))
           <;> (first | refine kL 33 ?_ | refine xL 33 q_geq ?_)
           <;> (first | refine kL 34 ?_ | refine xL 34 q_move ?_)
           <;> (first | refine kL 35 ?_ | (refine bLd 34 (fun hb34 => ?_) (fun hb34 => ?_) <;> (first | refine kL 35 ?_ | refine xL 35 q_move ?_)))
           <;> (first | refine kL 36 ?_ | refine xL 36 q_leq ?_)
           <;> (first | refine kL 37 ?_ | refine xL 37 q_pick ?_)
           <;> (first | refine kL 38 ?_ | refine xL 38 q_not ?_)
           <;> refine xL 39 q_pick ?_
           <;> refine xL 40 q_move ?_
           <;> (first | refine kL 41 ?_ | refine xL 41 q_move ?_ | (refine bL 40 (fun hb40 => ?_) (fun hb40 => ?_) <;> (first | refine kL 41 ?_ | refine xL 41 q_move ?_)))
           <;> (first | refine kL 42 ?_ | refine xL 42 q_neq ?_)
           <;> refine xL 43 q_pick ?_
           <;> refine xL 44 q_move ?_
           <;> (first | refine kL 45 ?_ | (refine bLd 44 (fun hb44 => ?_) (fun hb44 => ?_) <;> (first | refine kL 45 ?_ | refine xL 45 q_move ?_)))
           <;> (first | refine kL 46 ?_ | refine xL 46 q_neq ?_)
           <;> refine xL 47 q_pick ?_
           <;> refine xL 48 q_move ?_
           <;> (first | refine kL 49 ?_ | (refine bLd 48 (fun hb48 => ?_) (fun hb48 => ?_) <;> (first | refine kL 49 ?_ | refine xL 49 q_move ?_)))
           <;> (first | refine kL 50 ?_ | refine xL 50 q_neq ?_)
           <;> refine xL 51 q_pick ?_
           <;> refine aL_end (nav ?_) <;> try dsimp only) <;> (
          first | refine cCd (fun hb51 => ?_) (fun hb51 => ?_) | refine cC (fun hb51 => ?_) (fun hb51 => ?_)
          · first
            | exact Bool.noConfusion hb51
            | (
             refine nav ?_
             (refine aC_region ?_
               <;> refine xL 2 q_assign ?_
               <;> refine aL_end (nav ?_) <;> try dsimp only)
             refine ret_shr (Tryz.results112) rfl ?_
             rw [isName_bad hy]
             rw [Bool.eq_false_iff]; intro hpb
             simp only [partB, Bool.or_eq_true, Bool.and_eq_true, decide_eq_true_eq, beq_iff_eq] at hpb
             simp_all
             try omega)
          · first
            | exact Bool.noConfusion hb51
            | (
             refine nav ?_
             (refine aC_region ?_
               <;> refine xL 23 q_move ?_
               <;> refine xL 24 q_add ?_
               <;> refine xL 3 q_assign ?_
               <;> refine aL_end (nav ?_) <;> try dsimp only)
             refine aN_again (
               ⟨k + 1, by omega, by omega, fun j z hj hz => by
                 by_cases e : j = k
                 · subst e; rw [hy] at hz; cases hz
                   simp only [partB, Bool.or_eq_true, Bool.and_eq_true, decide_eq_true_eq, beq_iff_eq]
                   simp_all
                   try omega
                 · exact hp j z (by omega) hz⟩
               ) (by dsimp only; omega) ⟨rfl, rfl, trivial⟩ trivial)))
      · first
        | exact Bool.noConfusion hb22
        | (
         refine nav ?_
         (refine aC_region ?_
           <;> refine xL 2 q_assign ?_
           <;> refine aL_end (nav ?_) <;> try dsimp only)
         refine ret_shr (Tryz.results112) rfl ?_
         rw [isName_good (by omega) (by omega) hy0 (by simpa using hb18) (fun j z hj hz => hp j z (by omega) hz)])))
theorem rNames_e (l : List ByteArray) (hf : ∀ s ∈ l, s.size ≤ 140737488355328) : AF Tryz.prog 77 [pStrs l] (· = pBool (l.all isName)) := by
  refine AF.of_body 16 Tryz.func77 rfl Tryz.ntmps77 (Nat.le_of_ble_eq_true rfl) ?_
  intro w0 M0 vs hl hv
  obtain ⟨v0, rfl⟩ := len1 hl
  clear hl hv
  refine aC_slen 0 rfl fun hlen => ?_
  refine nav ?_
  (refine aC_region ?_
    <;> refine xL 2 q_assign ?_
    <;> refine aL_end (nav ?_) <;> try dsimp only)
  (refine aC_region ?_
    <;> refine xL 3 q_assign ?_
    <;> refine aL_end (nav ?_) <;> try dsimp only)
  refine aC_loop (ι := { k : Nat // k ≤ l.length ∧ ∀ j x, j < k → l[j]? = some x → isName x = true }) (fun k => ⟨[(0, _, _), (3, .int .i64 k.1, pInt k.1)], []⟩) (fun k => l.length - k.1) ⟨0, by omega, by omega⟩ (fun a w H => H.weaken ⟨rfl, rfl, trivial⟩ trivial) ?_
  rintro ⟨k, hk, hp⟩
  dsimp only
  refine nav ?_
  (refine aC_region ?_
    <;> refine xL 4 q_move ?_
    <;> refine xL 5 q_move ?_
    <;> refine xL 6 (q_len tSl51_LbA) ?_
    <;> refine xL 7 q_lss ?_
    <;> refine aL_end (nav ?_) <;> try dsimp only)
  first | refine cCd (fun hb7 => ?_) (fun hb7 => ?_) | refine cC (fun hb7 => ?_) (fun hb7 => ?_)
  · first
    | exact Bool.noConfusion hb7
    | (
     obtain ⟨x, hx⟩ := get_some (show k < l.length by omega)
     have e1 := map_at (f := pStr) hx
     have hxs := hf x (List.mem_of_getElem? hx)
     refine nav ?_
     (refine aC_region ?_
       <;> refine xL 10 q_move ?_
       <;> refine xL 11 q_move ?_
       <;> refine xL 12 (q_idxN tSl51_LbA) ?_
       <;> (refine yL 13 (q_ld tNa9_LbA) fun v13 hv13 => ?_; cases hv13)
       <;> (refine cS 14 (cA Tryz.call112 (rIsName_e x (by omega))) fun v14 hv14 => ?_; cases hv14)
       <;> refine xL 15 q_not ?_
       <;> refine aL_end (nav ?_) <;> try dsimp only)
     first | refine cCd (fun hb15 => ?_) (fun hb15 => ?_) | refine cC (fun hb15 => ?_) (fun hb15 => ?_)
     · first
       | exact Bool.noConfusion hb15
       | (
        refine nav ?_
        (refine aC_region ?_
          <;> refine xL 2 q_assign ?_
          <;> refine aL_end (nav ?_) <;> try dsimp only)
        refine ret_shr (Tryz.results77) rfl ?_
        rw [all_stop hx (by simpa using hb15)])
     · first
       | exact Bool.noConfusion hb15
       | (
        refine nav ?_
        (refine aC_region ?_
          <;> refine xL 8 q_move ?_
          <;> refine xL 9 q_add ?_
          <;> refine xL 3 q_assign ?_
          <;> refine aL_end (nav ?_) <;> try dsimp only)
        refine aN_again (
          ⟨k + 1, by omega, fun j z hj hz => by
            by_cases e : j = k
            · subst e; rw [hx] at hz; cases hz; simpa using hb15
            · exact hp j z (by omega) hz⟩
          ) (by dsimp only; omega) ⟨rfl, rfl, trivial⟩ trivial))
  · first
    | exact Bool.noConfusion hb7
    | (
     refine nav ?_
     (refine aC_region ?_
       <;> refine xL 2 q_assign ?_
       <;> refine aL_end (nav ?_) <;> try dsimp only)
     refine ret_shr (Tryz.results77) rfl ?_
     rw [all_end fun j x hj => hp j x (by have := lt_of_get hj; omega) hj])
theorem rAscends_e (l : List ByteArray) : AF Tryz.prog 119 [pStrs l] (· = pBool (chainB strLt l)) := by
  refine AF.of_body 20 Tryz.func119 rfl Tryz.ntmps119 (Nat.le_of_ble_eq_true rfl) ?_
  intro w0 M0 vs hl hv
  obtain ⟨v0, rfl⟩ := len1 hl
  clear hl hv
  refine aC_slen 0 rfl fun hlen => ?_
  refine nav ?_
  (refine aC_region ?_
    <;> refine xL 2 q_assign ?_
    <;> refine aL_end (nav ?_) <;> try dsimp only)
  (refine aC_region ?_
    <;> refine xL 3 q_assign ?_
    <;> refine aL_end (nav ?_) <;> try dsimp only)
  refine aC_loop (ι := { k : Nat // 1 ≤ k ∧ (k ≤ l.length ∨ k = 1) ∧ ∀ j x y, 1 ≤ j → j < k → l[j - 1]? = some y → l[j]? = some x → strLt y x = true }) (fun k => ⟨[(0, _, _), (3, .int .i64 k.1, pInt k.1)], []⟩) (fun k => l.length - k.1) ⟨1, by omega, by omega, by omega⟩ (fun a w H => H.weaken ⟨rfl, rfl, trivial⟩ trivial) ?_
  rintro ⟨k, hk1, hk, hp⟩
  dsimp only
  refine nav ?_
  (refine aC_region ?_
    <;> refine xL 4 q_move ?_
    <;> refine xL 5 q_move ?_
    <;> refine xL 6 (q_len tSl51_LbA) ?_
    <;> refine xL 7 q_lss ?_
    <;> refine aL_end (nav ?_) <;> try dsimp only)
  first | refine cCd (fun hb7 => ?_) (fun hb7 => ?_) | refine cC (fun hb7 => ?_) (fun hb7 => ?_)
  · first
    | exact Bool.noConfusion hb7
    | (
     obtain ⟨x, hx⟩ := get_some (show k < l.length by omega)
     obtain ⟨y, hy⟩ := get_some (show k - 1 < l.length by omega)
     have e1 := map_at (f := pStr) hx
     have e2 : (l.map pStr)[((k : Int) - 1).toNat * 1]? = some (pStr y) := by rw [show ((k : Int) - 1).toNat * 1 = k - 1 by omega]; exact (by rw [List.getElem?_map, hy]; rfl)
     refine nav ?_
     (refine aC_draw (fun i => ([] : List Nat).elem i) [] (by kernel_rfl) ?_
       <;> refine xD 0 10 rfl q_move ?_
       <;> refine xD 1 11 rfl q_move ?_
       <;> refine xD 2 12 rfl q_sub ?_
       <;> refine xD 3 13 rfl (q_idx tSl51_LbA) ?_
       <;> (refine yD 4 14 rfl (q_ld tNa9_LbA) fun v14 hv14 => ?_; cases hv14)
       <;> refine xD 5 15 rfl q_move ?_
       <;> refine xE 6 16 rfl q_move ?_
       <;> refine xE 7 17 rfl (q_idxN tSl51_LbA) ?_
       <;> (refine yE 8 18 rfl (q_ld tNa9_LbA) fun v18 hv18 => ?_; cases hv18)
       <;> refine xE 9 19 rfl q_sgeq ?_
       <;> refine aD_end (by kernel_rfl) (nav ?_)
       <;> try dsimp only)
     first | refine cCd (fun hb19 => ?_) (fun hb19 => ?_) | refine cC (fun hb19 => ?_) (fun hb19 => ?_)
     · first
       | exact Bool.noConfusion hb19
       | (
        refine nav ?_
        (refine aC_region ?_
          <;> refine xL 2 q_assign ?_
          <;> refine aL_end (nav ?_) <;> try dsimp only)
        refine ret_shr (Tryz.results119) rfl ?_
        rw [chainB_stop hk1 hy hx (by simpa [strLt] using hb19)])
     · first
       | exact Bool.noConfusion hb19
       | (
        refine nav ?_
        (refine aC_region ?_
          <;> refine xL 8 q_move ?_
          <;> refine xL 9 q_add ?_
          <;> refine xL 3 q_assign ?_
          <;> refine aL_end (nav ?_) <;> try dsimp only)
        refine aN_again (
          ⟨k + 1, by omega, by omega, fun j x' y' h1 hj hy' hx' => by
            by_cases e : j = k
            · subst e; rw [hx] at hx'; cases hx'; rw [hy] at hy'; cases hy'; simpa [strLt] using hb19
            · exact hp j x' y' h1 (by omega) hy' hx'⟩
          ) (by dsimp only; omega) ⟨rfl, rfl, trivial⟩ trivial))
  · first
    | exact Bool.noConfusion hb7
    | (
     refine nav ?_
     (refine aC_region ?_
       <;> refine xL 2 q_assign ?_
       <;> refine aL_end (nav ?_) <;> try dsimp only)
     refine ret_shr (Tryz.results119) rfl ?_
     rw [chainB_end fun j x y h1 hy hx => hp j x y h1 (by have := lt_of_get hx; omega) hy hx])
theorem rAlphabet_e (l : List ByteArray) (hf : ∀ s ∈ l, s.size ≤ 140737488355328) : AF Tryz.prog 87 [pStrs l] (· = pBool (alphaB l)) := by
  refine AF.of_body 14 Tryz.func87 rfl Tryz.ntmps87 (Nat.le_of_ble_eq_true rfl) ?_
  intro w0 M0 vs hl hv
  obtain ⟨v0, rfl⟩ := len1 hl
  clear hl hv
  refine nav ?_
  (refine aC_region ?_
    <;> refine xL 2 q_assign ?_
    <;> refine aL_end (nav ?_) <;> try dsimp only)
  (refine aC_region ?_
    <;> refine xL 3 q_move ?_
    <;> refine xL 4 (q_len tSl51_LbA) ?_
    <;> refine xL 5 q_leq ?_
    <;> refine xL 6 q_move ?_
    <;> (refine bLd 6 (fun hb6 => ?_) (fun hb6 => ?_) <;> (first | refine kL 7 ?_ | refine xL 7 q_move ?_))
    <;> (first | refine kL 8 ?_ | (refine cS 8 (cA Tryz.call77 (rNames_e l hf)) fun v8 hv8 => ?_; cases hv8))
    <;> refine xL 9 q_pick ?_
    <;> refine xL 10 q_move ?_
    <;> (first | refine kL 11 ?_ | (refine bL 10 (fun hb10 => ?_) (fun hb10 => ?_) <;> (first | refine kL 11 ?_ | refine xL 11 q_move ?_)))
    <;> (first | refine kL 12 ?_ | (refine cS 12 (cA Tryz.call119 (rAscends_e l)) fun v12 hv12 => ?_; cases hv12))
    <;> refine xL 13 q_pick ?_
    <;> refine xL 2 q_assign ?_
    <;> refine aL_end (nav ?_) <;> try dsimp only) <;> (
   refine ret_shr (Tryz.results87) rfl ?_
   show pBool _ = pBool _
   unfold alphaB
   first | rw [decide_eq_true (show l.length ≤ 40 by omega)] | rw [decide_eq_false (show ¬ l.length ≤ 40 by omega)]
   first | (rw [hb10]; simp) | simp)
theorem rIndex_e (l : List ByteArray) (s : ByteArray) : AF Tryz.prog 89 [pStrs l, pStr s] (· = pInt (idx (fun x => strEq x s) l)) := by
  refine AF.of_body 19 Tryz.func89 rfl Tryz.ntmps89 (Nat.le_of_ble_eq_true rfl) ?_
  intro w0 M0 vs hl hv
  obtain ⟨v0, v1, rfl⟩ := len2 hl
  obtain rfl := hv 1 _ _ rfl rfl
  clear hl hv
  refine aC_slen 0 rfl fun hlen => ?_
  refine nav ?_
  (refine aC_region ?_
    <;> refine xL 4 q_assign ?_
    <;> refine aL_end (nav ?_) <;> try dsimp only)
  (refine aC_region ?_
    <;> refine xL 5 q_assign ?_
    <;> refine aL_end (nav ?_) <;> try dsimp only)
  refine aC_loop (ι := { k : Nat // k ≤ l.length ∧ ∀ i y, i < k → l[i]? = some y → strEq y s = false }) (fun k => ⟨[(0, _, _), (1, _, _), (5, .int .i64 k.1, pInt k.1)], []⟩) (fun k => l.length - k.1) ⟨0, by omega, by omega⟩ (fun a w H => H.weaken ⟨rfl, rfl, rfl, trivial⟩ trivial) ?_
  rintro ⟨k, hk, hp⟩
  dsimp only
  refine nav ?_
  (refine aC_region ?_
    <;> refine xL 6 q_move ?_
    <;> refine xL 7 q_move ?_
    <;> refine xL 8 (q_len tSl51_LbA) ?_
    <;> refine xL 9 q_lss ?_
    <;> refine aL_end (nav ?_) <;> try dsimp only)
  first | refine cCd (fun hb9 => ?_) (fun hb9 => ?_) | refine cC (fun hb9 => ?_) (fun hb9 => ?_)
  · first
    | exact Bool.noConfusion hb9
    | (
     obtain ⟨x, hx⟩ := get_some (show k < l.length by omega)
     have e1 := map_at (f := pStr) hx
     refine nav ?_
     (refine aC_region ?_
       <;> refine xL 12 q_move ?_
       <;> refine xL 13 q_move ?_
       <;> refine xL 14 (q_idxN tSl51_LbA) ?_
       <;> (refine yL 15 (q_ld tNa9_LbA) fun v15 hv15 => ?_; cases hv15)
       <;> refine xL 16 q_move ?_
       <;> refine xL 17 q_seql ?_
       <;> refine aL_end (nav ?_) <;> try dsimp only)
     first | refine cCd (fun hb17 => ?_) (fun hb17 => ?_) | refine cC (fun hb17 => ?_) (fun hb17 => ?_)
     · first
       | exact Bool.noConfusion hb17
       | (
        refine nav ?_
        (refine aC_region ?_
          <;> refine xL 18 q_move ?_
          <;> refine xL 4 q_assign ?_
          <;> refine aL_end (nav ?_) <;> try dsimp only)
        refine ret_shr (Tryz.results89) rfl ?_
        rw [idx_here hp hx hb17])
     · first
       | exact Bool.noConfusion hb17
       | (
        refine nav ?_
        (refine aC_region ?_
          <;> refine xL 10 q_move ?_
          <;> refine xL 11 q_add ?_
          <;> refine xL 5 q_assign ?_
          <;> refine aL_end (nav ?_) <;> try dsimp only)
        refine aN_again (
          ⟨k + 1, by omega, fun i y hi hy => by
            by_cases e : i = k
            · subst e; rw [hx] at hy; cases hy; exact hb17
            · exact hp i y (by omega) hy⟩
          ) (by dsimp only; omega) ⟨rfl, rfl, rfl, trivial⟩ trivial))
  · first
    | exact Bool.noConfusion hb9
    | (
     refine nav ?_
     (refine aC_region ?_
       <;> refine xL 4 q_assign ?_
       <;> refine aL_end (nav ?_) <;> try dsimp only)
     refine ret_shr (Tryz.results89) rfl ?_
     rw [idx_none fun i y hi hy => hp i y (by omega) hy])
theorem strEq_comm (a b : ByteArray) : strEq a b = strEq b a := by unfold strEq; rw [Bool.eq_iff_iff]; simp only [beq_iff_eq]; exact eq_comm
theorem sIndexStr_e (l : List ByteArray) (s : ByteArray) : AF Tryz.prog 33 [pStrs l, pStr s] (· = pInt (idx (fun x => strEq x s) l)) := by
  refine AF.of_body 19 Tryz.func33 rfl Tryz.ntmps33 (Nat.le_of_ble_eq_true rfl) ?_
  intro w0 M0 vs hl hv
  obtain ⟨v0, v1, rfl⟩ := len2 hl
  obtain rfl := hv 1 _ _ rfl rfl
  clear hl hv
  refine aC_slen 0 rfl fun hlen => ?_
  refine nav ?_
  (refine aC_region ?_
    <;> refine xL 4 q_assign ?_
    <;> refine aL_end (nav ?_) <;> try dsimp only)
  (refine aC_region ?_
    <;> refine xL 6 q_move ?_
    <;> refine xL 7 (q_len tSl51_LbA) ?_
    <;> refine xL 8 q_move ?_
    <;> refine aL_end (nav ?_) <;> try dsimp only)
  refine aC_loop (ι := { k : Nat // k ≤ l.length ∧ ∀ i y, i < k → l[i]? = some y → strEq y s = false }) (fun k => ⟨[(0, _, _), (1, _, _), (7, _, _), (8, .int .i64 k.1, pInt k.1)], []⟩) (fun k => l.length - k.1) ⟨0, by omega, by omega⟩ (fun a w H => H.weaken ⟨rfl, rfl, rfl, rfl, trivial⟩ trivial) ?_
  rintro ⟨k, hk, hp⟩
  dsimp only
  refine nav ?_
  (refine aC_region ?_
    <;> refine xL 9 q_lss ?_
    <;> refine aL_end (nav ?_) <;> try dsimp only)
  first | refine cCd (fun hb9 => ?_) (fun hb9 => ?_) | refine cC (fun hb9 => ?_) (fun hb9 => ?_)
  · first
    | exact Bool.noConfusion hb9
    | (
     obtain ⟨x, hx⟩ := get_some (show k < l.length by omega)
     have e1 := map_at (f := pStr) hx
     refine nav ?_
     (refine aC_region ?_
       <;> refine xL 10 q_move ?_
       <;> refine xL 5 q_assign ?_
       <;> refine aL_end (nav ?_) <;> try dsimp only)
     (refine aC_region ?_
       <;> refine xL 11 q_move ?_
       <;> refine xL 12 q_move ?_
       <;> refine xL 13 q_move ?_
       <;> refine xL 14 (q_idxN tSl51_LbA) ?_
       <;> (refine yL 15 (q_ld tNa9_LbA) fun v15 hv15 => ?_; cases hv15)
       <;> refine xL 16 q_seql ?_
       <;> refine aL_end (nav ?_) <;> try dsimp only)
     first | refine cCd (fun hb16 => ?_) (fun hb16 => ?_) | refine cC (fun hb16 => ?_) (fun hb16 => ?_)
     · first
       | exact Bool.noConfusion hb16
       | (
        replace hb16 : strEq x s = true := by rw [strEq_comm]; exact hb16
        refine nav ?_
        (refine aC_region ?_
          <;> refine xL 17 q_move ?_
          <;> refine xL 4 q_assign ?_
          <;> refine aL_end (nav ?_) <;> try dsimp only)
        refine ret_shr (Tryz.results33) rfl ?_
        rw [idx_here hp hx hb16])
     · first
       | exact Bool.noConfusion hb16
       | (
        replace hb16 : strEq x s = false := by rw [strEq_comm]; exact hb16
        refine nav ?_
        (refine aC_region ?_
          <;> refine xL 18 q_add ?_
          <;> refine xL 8 q_move ?_
          <;> refine aL_end (nav ?_) <;> try dsimp only)
        refine aN_again (
          ⟨k + 1, by omega, fun i y hi hy => by
            by_cases e : i = k
            · subst e; rw [hx] at hy; cases hy; exact hb16
            · exact hp i y (by omega) hy⟩
          ) (by dsimp only; omega) ⟨rfl, rfl, rfl, rfl, trivial⟩ trivial))
  · first
    | exact Bool.noConfusion hb9
    | (
     refine nav ?_
     (refine aC_region ?_
       <;> refine xL 4 q_assign ?_
       <;> refine aL_end (nav ?_) <;> try dsimp only)
     refine ret_shr (Tryz.results33) rfl ?_
     rw [idx_none fun i y hi hy => hp i y (by omega) hy])
theorem sContainsStr_e (l : List ByteArray) (s : ByteArray) : AF Tryz.prog 60 [pStrs l, pStr s] (· = pBool (hasStr l s)) := by
  refine AF.of_body 9 Tryz.func60 rfl Tryz.ntmps60 (Nat.le_of_ble_eq_true rfl) ?_
  intro w0 M0 vs hl hv
  obtain ⟨v0, v1, rfl⟩ := len2 hl
  obtain rfl := hv 1 _ _ rfl rfl
  clear hl hv
  refine nav ?_
  (refine aC_region ?_
    <;> refine xL 4 q_assign ?_
    <;> refine aL_end (nav ?_) <;> try dsimp only)
  (refine aC_region ?_
    <;> refine xL 5 q_move ?_
    <;> refine xL 6 q_move ?_
    <;> (refine cS 7 (cA Tryz.call33 (sIndexStr_e l s)) fun v7 hv7 => ?_; cases hv7)
    <;> refine xL 8 q_geq ?_
    <;> refine xL 4 q_assign ?_
    <;> refine aL_end (nav ?_) <;> try dsimp only)
  refine ret_shr (Tryz.results60) rfl ?_
  unfold hasStr
  rw [idx_any]
theorem cmp_step {l m : List ByteArray} {k : Nat} {x y : ByteArray} (hx : l[k]? = some x) (hy : m[k]? = some y) : cmpStrs (l.drop k) (m.drop k) = if cmpStr x y = 0 then cmpStrs (l.drop (k + 1)) (m.drop (k + 1)) else cmpStr x y := by rw [drop_at hx, drop_at hy, cmpStrs]
theorem cmpStr_lt {a b : ByteArray} (h : strLt a b = true) : cmpStr a b = -1 := by unfold cmpStr; rw [if_pos h]
theorem cmpStr_gt {a b : ByteArray} (h : (!(strLt a b || strEq a b)) = true) : cmpStr a b = 1 := by
  simp only [Bool.not_eq_true', Bool.or_eq_false_iff] at h
  unfold cmpStr; rw [if_neg (by rw [h.1]; simp), if_neg (by rw [h.2]; simp)]
theorem cmpStr_eq {a b : ByteArray} (h1 : strLt a b = false) (h : (!(strLt a b || strEq a b)) = false) : cmpStr a b = 0 := by
  rw [h1, Bool.false_or, Bool.not_eq_false'] at h
  unfold cmpStr; rw [if_neg (by rw [h1]; simp), if_pos h]
theorem cmp_end {l m : List ByteArray} {k : Nat} (h : ¬ (k < l.length ∧ k < m.length)) (hk : k ≤ l.length) (hk' : k ≤ m.length) : cmpStrs (l.drop k) (m.drop k) = if l.length < m.length then -1 else if m.length < l.length then 1 else 0 := by
  by_cases h1 : l.length = k
  · rw [List.drop_eq_nil_of_le (show l.length ≤ k by omega)]
    by_cases h2 : m.length = k
    · rw [List.drop_eq_nil_of_le (show m.length ≤ k by omega), if_neg (by omega), if_neg (by omega)]; rfl
    · obtain ⟨y, hy⟩ := get_some (show k < m.length by omega)
      rw [drop_at hy, if_pos (by omega)]; rfl
  · have h2 : m.length = k := by omega
    rw [List.drop_eq_nil_of_le (show m.length ≤ k by omega)]
    obtain ⟨x, hx⟩ := get_some (show k < l.length by omega)
    rw [drop_at hx, if_neg (by omega), if_pos (by omega)]; rfl
theorem rCompare_e (l m : List ByteArray) : AF Tryz.prog 78 [pStrs l, pStrs m] (· = pInt (cmpStrs l m)) := by
  refine AF.of_body 46 Tryz.func78 rfl Tryz.ntmps78 (Nat.le_of_ble_eq_true rfl) ?_
  intro w0 M0 vs hl hv
  obtain ⟨v0, v1, rfl⟩ := len2 hl
  clear hl hv
  refine aC_slen 0 rfl fun hlen => ?_
  refine aC_slen 1 rfl fun hlem => ?_
  refine nav ?_
  (refine aC_region ?_
    <;> refine xL 4 q_assign ?_
    <;> refine aL_end (nav ?_) <;> try dsimp only)
  (refine aC_region ?_
    <;> refine xL 5 q_assign ?_
    <;> refine aL_end (nav ?_) <;> try dsimp only)
  refine aC_loop (ι := { k : Nat // k ≤ l.length ∧ k ≤ m.length ∧ cmpStrs l m = cmpStrs (l.drop k) (m.drop k) }) (fun k => ⟨[(0, _, _), (1, _, _), (5, .int .i64 k.1, pInt k.1)], []⟩) (fun k => l.length - k.1) ⟨0, by omega, by omega, rfl⟩ (fun a w H => H.weaken ⟨rfl, rfl, rfl, trivial⟩ trivial) ?_
  rintro ⟨k, hk, hk', hp⟩
  dsimp only
  refine nav ?_
  (refine aC_region ?_
    <;> refine xL 6 q_move ?_
    <;> refine xL 7 q_move ?_
    <;> refine xL 8 (q_len tSl51_LbA) ?_
    <;> refine xL 9 q_lss ?_
    <;> refine xL 10 q_move ?_
    <;> (refine bLd 10 (fun hb10 => ?_) (fun hb10 => ?_) <;> (first | refine kL 11 ?_ | refine xL 11 q_move ?_))
    <;> (first | refine kL 12 ?_ | refine xL 12 q_move ?_)
    <;> (first | refine kL 13 ?_ | refine xL 13 (q_len tSl51_LbA) ?_)
    <;> (first | refine kL 14 ?_ | refine xL 14 q_lss ?_)
    <;> refine xL 15 q_pick ?_
    <;> refine aL_end (nav ?_) <;> try dsimp only) <;> (
   first | refine cCd (fun hb15 => ?_) (fun hb15 => ?_) | refine cC (fun hb15 => ?_) (fun hb15 => ?_)
   · first
     | exact Bool.noConfusion hb15
     | (
      obtain ⟨x, hx⟩ := get_some (show k < l.length by omega)
      obtain ⟨y, hy⟩ := get_some (show k < m.length by omega)
      have e1 := map_at (f := pStr) hx
      have e2 := map_at (f := pStr) hy
      have hs := cmp_step hx hy
      refine nav ?_
      (refine aC_draw (fun i => ([] : List Nat).elem i) [] (by kernel_rfl) ?_
        <;> refine xD 0 18 rfl q_move ?_
        <;> refine xD 1 19 rfl q_move ?_
        <;> refine xD 2 20 rfl (q_idxN tSl51_LbA) ?_
        <;> (refine yD 3 21 rfl (q_ld tNa9_LbA) fun v21 hv21 => ?_; cases hv21)
        <;> refine xD 4 22 rfl q_move ?_
        <;> refine xE 5 23 rfl q_move ?_
        <;> refine xE 6 24 rfl (q_idxN tSl51_LbA) ?_
        <;> (refine yE 7 25 rfl (q_ld tNa9_LbA) fun v25 hv25 => ?_; cases hv25)
        <;> refine xE 8 26 rfl q_slss ?_
        <;> refine aD_end (by kernel_rfl) (nav ?_)
        <;> try dsimp only)
      first | refine cCd (fun hb26 => ?_) (fun hb26 => ?_) | refine cC (fun hb26 => ?_) (fun hb26 => ?_)
      · first
        | exact Bool.noConfusion hb26
        | (
         refine nav ?_
         (refine aC_region ?_
           <;> refine xL 4 q_assign ?_
           <;> refine aL_end (nav ?_) <;> try dsimp only)
         refine ret_shr (Tryz.results78) rfl ?_
         rw [hp, hs, cmpStr_lt hb26]; rfl)
      · first
        | exact Bool.noConfusion hb26
        | (
         refine nav ?_
         (refine aC_draw (fun i => ([] : List Nat).elem i) [] (by kernel_rfl) ?_
           <;> refine xD 0 27 rfl q_move ?_
           <;> refine xD 1 28 rfl q_move ?_
           <;> refine xD 2 29 rfl (q_idxN tSl51_LbA) ?_
           <;> (refine yD 3 30 rfl (q_ld tNa9_LbA) fun v30 hv30 => ?_; cases hv30)
           <;> refine xD 4 31 rfl q_move ?_
           <;> refine xE 5 32 rfl q_move ?_
           <;> refine xE 6 33 rfl (q_idxN tSl51_LbA) ?_
           <;> (refine yE 7 34 rfl (q_ld tNa9_LbA) fun v34 hv34 => ?_; cases hv34)
           <;> refine xE 8 35 rfl q_sgtr ?_
           <;> refine aD_end (by kernel_rfl) (nav ?_)
           <;> try dsimp only)
         first | refine cCd (fun hb35 => ?_) (fun hb35 => ?_) | refine cC (fun hb35 => ?_) (fun hb35 => ?_)
         · first
           | exact Bool.noConfusion hb35
           | (
            refine nav ?_
            (refine aC_region ?_
              <;> refine xL 4 q_assign ?_
              <;> refine aL_end (nav ?_) <;> try dsimp only)
            refine ret_shr (Tryz.results78) rfl ?_
            rw [hp, hs, cmpStr_gt hb35]; rfl)
         · first
           | exact Bool.noConfusion hb35
           | (
            refine nav ?_
            (refine aC_region ?_
              <;> refine xL 16 q_move ?_
              <;> refine xL 17 q_add ?_
              <;> refine xL 5 q_assign ?_
              <;> refine aL_end (nav ?_) <;> try dsimp only)
            refine aN_again (
              ⟨k + 1, by omega, by omega, by rw [hp, hs, cmpStr_eq hb26 hb35]; rfl⟩
              ) (by dsimp only; omega) ⟨rfl, rfl, rfl, trivial⟩ trivial)))
   · first
     | exact Bool.noConfusion hb15
     | (
      refine nav ?_
      (refine aC_region ?_
        <;> refine xL 36 q_move ?_
        <;> refine xL 37 (q_len tSl51_LbA) ?_
        <;> refine xL 38 q_move ?_
        <;> refine xL 39 (q_len tSl51_LbA) ?_
        <;> refine xL 40 q_lss ?_
        <;> refine aL_end (nav ?_) <;> try dsimp only)
      first | refine cCd (fun hb40 => ?_) (fun hb40 => ?_) | refine cC (fun hb40 => ?_) (fun hb40 => ?_)
      · first
        | exact Bool.noConfusion hb40
        | (
         refine nav ?_
         (refine aC_region ?_
           <;> refine xL 4 q_assign ?_
           <;> refine aL_end (nav ?_) <;> try dsimp only)
         refine ret_shr (Tryz.results78) rfl ?_
         rw [hp, cmp_end (by omega) hk hk', if_pos (by omega)])
      · first
        | exact Bool.noConfusion hb40
        | (
         refine nav ?_
         (refine aC_region ?_
           <;> refine xL 41 q_move ?_
           <;> refine xL 42 (q_len tSl51_LbA) ?_
           <;> refine xL 43 q_move ?_
           <;> refine xL 44 (q_len tSl51_LbA) ?_
           <;> refine xL 45 q_gtr ?_
           <;> refine aL_end (nav ?_) <;> try dsimp only)
         first | refine cCd (fun hb45 => ?_) (fun hb45 => ?_) | refine cC (fun hb45 => ?_) (fun hb45 => ?_)
         · first
           | exact Bool.noConfusion hb45
           | (
            refine nav ?_
            (refine aC_region ?_
              <;> refine xL 4 q_assign ?_
              <;> refine aL_end (nav ?_) <;> try dsimp only)
            refine ret_shr (Tryz.results78) rfl ?_
            rw [hp, cmp_end (by omega) hk hk', if_neg (by omega), if_pos (by omega)])
         · first
           | exact Bool.noConfusion hb45
           | (
            refine nav ?_
            (refine aC_region ?_
              <;> refine xL 4 q_assign ?_
              <;> refine aL_end (nav ?_) <;> try dsimp only)
            refine ret_shr (Tryz.results78) rfl ?_
            rw [hp, cmp_end (by omega) hk hk', if_neg (by omega), if_neg (by omega)]))))
theorem rSame_e (l m : List ByteArray) : AF Tryz.prog 66 [pStrs l, pStrs m] (· = pBool (decide (cmpStrs l m = 0))) := by
  refine AF.of_body 9 Tryz.func66 rfl Tryz.ntmps66 (Nat.le_of_ble_eq_true rfl) ?_
  intro w0 M0 vs hl hv
  obtain ⟨v0, v1, rfl⟩ := len2 hl
  clear hl hv
  refine nav ?_
  (refine aC_region ?_
    <;> refine xL 4 q_assign ?_
    <;> refine aL_end (nav ?_) <;> try dsimp only)
  (refine aC_region ?_
    <;> refine xL 5 q_move ?_
    <;> refine xL 6 q_move ?_
    <;> (refine cS 7 (cA Tryz.call78 (rCompare_e l m)) fun v7 hv7 => ?_; cases hv7)
    <;> refine xL 8 q_eql ?_
    <;> refine xL 4 q_assign ?_
    <;> refine aL_end (nav ?_) <;> try dsimp only)
  exact ret_shr Tryz.results66 rfl rfl
theorem all2_stop {α β : Type} {r : α → β → Bool} : ∀ {l : List α} {m : List β} {k : Nat} {x : α} {y : β}, l[k]? = some x → m[k]? = some y → r x y = false → all2 r l m = false
  | a :: l, b :: m, 0, x, y, hx, hy, h => by simp at hx hy; subst hx hy; rw [all2, h]; rfl
  | a :: l, b :: m, k + 1, x, y, hx, hy, h => by rw [all2, all2_stop (l := l) (m := m) (k := k) (by simpa using hx) (by simpa using hy) h]; simp
  | [], _, k, x, y, hx, _, _ => by simp at hx
  | _ :: _, [], k, x, y, _, hy, _ => by simp at hy
theorem all2_end {α β : Type} {r : α → β → Bool} : ∀ {l : List α} {m : List β}, l.length = m.length → (∀ (k : Nat) x y, l[k]? = some x → m[k]? = some y → r x y = true) → all2 r l m = true
  | [], [], _, _ => rfl
  | a :: l, b :: m, hl, h => by rw [all2, h 0 a b rfl rfl, all2_end (l := l) (m := m) (by simpa using hl) (fun k x y hx hy => h (k + 1) x y (by simpa using hx) (by simpa using hy))]; rfl
  | [], _ :: _, hl, _ => by simp at hl
  | _ :: _, [], hl, _ => by simp at hl
def sameAll (l m : List (List ByteArray)) : Bool := all2 (fun a b => decide (cmpStrs a b = 0)) l m
theorem rSameAll_e (l m : List (List ByteArray)) : AF Tryz.prog 20 [pStrss l, pStrss m] (· = pBool (sameAll l m)) := by
  refine AF.of_body 27 Tryz.func20 rfl Tryz.ntmps20 (Nat.le_of_ble_eq_true rfl) ?_
  intro w0 M0 vs hl hv
  obtain ⟨v0, v1, rfl⟩ := len2 hl
  clear hl hv
  refine aC_slen 0 rfl fun hlen => ?_
  refine aC_slen 1 rfl fun hlem => ?_
  refine nav ?_
  (refine aC_region ?_
    <;> refine xL 4 q_assign ?_
    <;> refine aL_end (nav ?_) <;> try dsimp only)
  (refine aC_region ?_
    <;> refine xL 6 q_move ?_
    <;> refine xL 7 (q_len tSl36_LbA) ?_
    <;> refine xL 8 q_move ?_
    <;> refine xL 9 (q_len tSl36_LbA) ?_
    <;> refine xL 10 q_neq ?_
    <;> refine aL_end (nav ?_) <;> try dsimp only)
  first | refine cCd (fun hb10 => ?_) (fun hb10 => ?_) | refine cC (fun hb10 => ?_) (fun hb10 => ?_)
  · first
    | exact Bool.noConfusion hb10
    | (
     refine nav ?_
     (refine aC_region ?_
       <;> refine xL 4 q_assign ?_
       <;> refine aL_end (nav ?_) <;> try dsimp only)
     refine ret_shr (Tryz.results20) rfl ?_
     rw [show sameAll l m = false from Bool.eq_false_iff.2 fun h => by have := all2_len h; omega])
  · first
    | exact Bool.noConfusion hb10
    | (
     refine nav ?_
     (refine aC_region ?_
       <;> refine xL 5 q_assign ?_
       <;> refine aL_end (nav ?_) <;> try dsimp only)
     refine aC_loop (ι := { k : Nat // k ≤ l.length ∧ ∀ j x y, j < k → l[j]? = some x → m[j]? = some y → decide (cmpStrs x y = 0) = true }) (fun k => ⟨[(0, _, _), (1, _, _), (5, .int .i64 k.1, pInt k.1)], []⟩) (fun k => l.length - k.1) ⟨0, by omega, by omega⟩ (fun a w H => H.weaken ⟨rfl, rfl, rfl, trivial⟩ trivial) ?_
     rintro ⟨k, hk, hp⟩
     dsimp only
     refine nav ?_
     (refine aC_region ?_
       <;> refine xL 11 q_move ?_
       <;> refine xL 12 q_move ?_
       <;> refine xL 13 (q_len tSl36_LbA) ?_
       <;> refine xL 14 q_lss ?_
       <;> refine aL_end (nav ?_) <;> try dsimp only)
     first | refine cCd (fun hb14 => ?_) (fun hb14 => ?_) | refine cC (fun hb14 => ?_) (fun hb14 => ?_)
     · first
       | exact Bool.noConfusion hb14
       | (
        obtain ⟨x, hx⟩ := get_some (show k < l.length by omega)
        obtain ⟨y, hy⟩ := get_some (show k < m.length by omega)
        have e1 := map_at (f := pStrs) hx
        have e2 := map_at (f := pStrs) hy
        refine nav ?_
        (refine aC_draw (fun i => ([] : List Nat).elem i) [] (by kernel_rfl) ?_
          <;> refine xD 0 17 rfl q_move ?_
          <;> refine xD 1 18 rfl q_move ?_
          <;> refine xD 2 19 rfl (q_idxN tSl36_LbA) ?_
          <;> (refine yD 3 20 rfl (q_ld tNa51_LbA) fun v20 hv20 => ?_; cases hv20)
          <;> refine xD 4 21 rfl q_move ?_
          <;> refine xE 5 22 rfl q_move ?_
          <;> refine xE 6 23 rfl (q_idxN tSl36_LbA) ?_
          <;> (refine yE 7 24 rfl (q_ld tNa51_LbA) fun v24 hv24 => ?_; cases hv24)
          <;> (refine aD_one 8 (by kernel_rfl) ?_)
          <;> (refine aW_run rfl fun w9 M9 N9 DQ back => ?_)
          <;> (refine cS 25 (cA Tryz.call66 (rSame_e x y)) fun v25 hv25 => ?_; cases hv25)
          <;> refine aL_end (back _ (nrm ?_))
          <;> refine xE 9 26 rfl q_not ?_
          <;> refine aD_end (by kernel_rfl) (nav ?_)
          <;> try dsimp only)
        first | refine cCd (fun hb26 => ?_) (fun hb26 => ?_) | refine cC (fun hb26 => ?_) (fun hb26 => ?_)
        · first
          | exact Bool.noConfusion hb26
          | (
           refine nav ?_
           (refine aC_region ?_
             <;> refine xL 4 q_assign ?_
             <;> refine aL_end (nav ?_) <;> try dsimp only)
           refine ret_shr (Tryz.results20) rfl ?_
           rw [show sameAll l m = false from all2_stop hx hy (by simpa using hb26)])
        · first
          | exact Bool.noConfusion hb26
          | (
           refine nav ?_
           (refine aC_region ?_
             <;> refine xL 15 q_move ?_
             <;> refine xL 16 q_add ?_
             <;> refine xL 5 q_assign ?_
             <;> refine aL_end (nav ?_) <;> try dsimp only)
           refine aN_again (
             ⟨k + 1, by omega, fun j a b hj ha hb => by
               by_cases e : j = k
               · subst e; rw [hx] at ha; cases ha; rw [hy] at hb; cases hb; simpa using hb26
               · exact hp j a b (by omega) ha hb⟩
             ) (by dsimp only; omega) ⟨rfl, rfl, rfl, trivial⟩ trivial))
     · first
       | exact Bool.noConfusion hb14
       | (
        refine nav ?_
        (refine aC_region ?_
          <;> refine xL 4 q_assign ?_
          <;> refine aL_end (nav ?_) <;> try dsimp only)
        refine ret_shr (Tryz.results20) rfl ?_
        rw [show sameAll l m = true from all2_end (by omega) fun j x y hx hy => hp j x y (by have := lt_of_get hx; omega) hx hy]))
theorem isNaNStr_e (s : ByteArray) : AF Tryz.prog 128 [pStr s] (· = pBool false) := by
  refine AF.of_body 6 Tryz.func128 rfl Tryz.ntmps128 (Nat.le_of_ble_eq_true rfl) ?_
  intro w0 M0 vs hl hv
  obtain ⟨v0, rfl⟩ := len1 hl
  obtain rfl := hv 0 _ _ rfl rfl
  clear hl hv
  refine nav ?_
  (refine aC_region ?_
    <;> refine xL 2 q_assign ?_
    <;> refine aL_end (nav ?_) <;> try dsimp only)
  (refine aC_region ?_
    <;> refine xL 3 q_move ?_
    <;> refine xL 4 q_move ?_
    <;> refine xL 5 q_sneq ?_
    <;> refine xL 2 q_assign ?_
    <;> refine aL_end (nav ?_) <;> try dsimp only)
  refine ret_shr (Tryz.results128) rfl ?_
  simp
theorem cmpString_e (a b : ByteArray) : AF Tryz.prog 101 [pStr a, pStr b] (· = pInt (cmpStr a b)) := by
  refine AF.of_body 20 Tryz.func101 rfl Tryz.ntmps101 (Nat.le_of_ble_eq_true rfl) ?_
  intro w0 M0 vs hl hv
  obtain ⟨v0, v1, rfl⟩ := len2 hl
  obtain rfl := hv 0 _ _ rfl rfl
  obtain rfl := hv 1 _ _ rfl rfl
  clear hl hv
  refine nav ?_
  (refine aC_region ?_
    <;> refine xL 4 q_assign ?_
    <;> refine aL_end (nav ?_) <;> try dsimp only)
  (refine aC_region ?_
    <;> refine xL 7 q_move ?_
    <;> (refine cS 8 (cA Tryz.call128 (isNaNStr_e a)) fun v8 hv8 => ?_; cases hv8)
    <;> refine xL 5 q_assign ?_
    <;> refine aL_end (nav ?_) <;> try dsimp only)
  (refine aC_region ?_
    <;> refine xL 9 q_move ?_
    <;> (refine cS 10 (cA Tryz.call128 (isNaNStr_e b)) fun v10 hv10 => ?_; cases hv10)
    <;> refine xL 6 q_assign ?_
    <;> refine aL_end (nav ?_) <;> try dsimp only)
  (refine aC_region ?_
    <;> refine xL 11 q_move ?_
    <;> refine aL_end (nav ?_) <;> try dsimp only)
  refine cCf ?_
  refine nav ?_
  (refine aC_region ?_
    <;> refine xL 13 q_move ?_
    <;> refine aL_end (nav ?_) <;> try dsimp only)
  refine cCf ?_
  refine nav ?_
  (refine aC_region ?_
    <;> refine xL 14 q_move ?_
    <;> refine xL 15 q_move ?_
    <;> refine xL 16 q_slss ?_
    <;> refine aL_end (nav ?_) <;> try dsimp only)
  first | refine cCd (fun hb16 => ?_) (fun hb16 => ?_) | refine cC (fun hb16 => ?_) (fun hb16 => ?_)
  · first
    | exact Bool.noConfusion hb16
    | (
     refine nav ?_
     (refine aC_region ?_
       <;> refine xL 4 q_assign ?_
       <;> refine aL_end (nav ?_) <;> try dsimp only)
     refine ret_shr (Tryz.results101) rfl ?_
     rw [cmpStr_lt hb16])
  · first
    | exact Bool.noConfusion hb16
    | (
     refine nav ?_
     (refine aC_region ?_
       <;> refine xL 17 q_move ?_
       <;> refine xL 18 q_move ?_
       <;> refine xL 19 q_sgtr ?_
       <;> refine aL_end (nav ?_) <;> try dsimp only)
     first | refine cCd (fun hb19 => ?_) (fun hb19 => ?_) | refine cC (fun hb19 => ?_) (fun hb19 => ?_)
     · first
       | exact Bool.noConfusion hb19
       | (
        refine nav ?_
        (refine aC_region ?_
          <;> refine xL 4 q_assign ?_
          <;> refine aL_end (nav ?_) <;> try dsimp only)
        refine ret_shr (Tryz.results101) rfl ?_
        rw [cmpStr_gt hb19])
     · first
       | exact Bool.noConfusion hb19
       | (
        refine nav ?_
        (refine aC_region ?_
          <;> refine xL 4 q_assign ?_
          <;> refine aL_end (nav ?_) <;> try dsimp only)
        refine ret_shr (Tryz.results101) rfl ?_
        rw [cmpStr_eq hb16 hb19]))
theorem compareStrs_e (l m : List ByteArray) : AF Tryz.prog 121 [pStrs l, pStrs m] (· = pInt (cmpStrs l m)) := by
  refine AF.of_body 36 Tryz.func121 rfl Tryz.ntmps121 (Nat.le_of_ble_eq_true rfl) ?_
  intro w0 M0 vs hl hv
  obtain ⟨v0, v1, rfl⟩ := len2 hl
  clear hl hv
  refine aC_slen 0 rfl fun hlen => ?_
  refine aC_slen 1 rfl fun hlem => ?_
  refine nav ?_
  (refine aC_region ?_
    <;> refine xL 4 q_assign ?_
    <;> refine aL_end (nav ?_) <;> try dsimp only)
  (refine aC_region ?_
    <;> refine xL 9 q_move ?_
    <;> refine xL 10 (q_len tSl51_LbA) ?_
    <;> refine xL 11 q_move ?_
    <;> refine aL_end (nav ?_) <;> try dsimp only)
  refine aC_loop (ι := { k : Nat // k ≤ l.length ∧ k ≤ m.length ∧ cmpStrs l m = cmpStrs (l.drop k) (m.drop k) }) (fun k => ⟨[(0, _, _), (1, _, _), (9, _, _), (10, _, _), (11, .int .i64 k.1, pInt k.1)], []⟩) (fun k => l.length - k.1) ⟨0, by omega, by omega, rfl⟩ (fun a w H => H.weaken ⟨rfl, rfl, rfl, rfl, rfl, trivial⟩ trivial) ?_
  rintro ⟨k, hk, hk', hp⟩
  dsimp only
  refine nav ?_
  (refine aC_region ?_
    <;> refine xL 12 q_lss ?_
    <;> refine aL_end (nav ?_) <;> try dsimp only)
  first | refine cCd (fun hb12 => ?_) (fun hb12 => ?_) | refine cC (fun hb12 => ?_) (fun hb12 => ?_)
  · first
    | exact Bool.noConfusion hb12
    | (
     obtain ⟨x, hx⟩ := get_some (show k < l.length by omega)
     have e1 := map_at (f := pStr) hx
     refine nav ?_
     (refine aC_region ?_
       <;> refine xL 13 q_move ?_
       <;> refine xL 14 (q_idxN tSl51_LbA) ?_
       <;> (refine yL 15 (q_ld tNa9_LbA) fun v15 hv15 => ?_; cases hv15)
       <;> refine xL 5 q_assign ?_
       <;> refine xL 6 q_assign ?_
       <;> refine aL_end (nav ?_) <;> try dsimp only)
     (refine aC_region ?_
       <;> refine xL 16 q_move ?_
       <;> refine xL 17 q_move ?_
       <;> refine xL 18 (q_len tSl51_LbA) ?_
       <;> refine xL 19 q_geq ?_
       <;> refine aL_end (nav ?_) <;> try dsimp only)
     first | refine cCd (fun hb19 => ?_) (fun hb19 => ?_) | refine cC (fun hb19 => ?_) (fun hb19 => ?_)
     · first
       | exact Bool.noConfusion hb19
       | (
        refine nav ?_
        (refine aC_region ?_
          <;> refine xL 4 q_assign ?_
          <;> refine aL_end (nav ?_) <;> try dsimp only)
        refine ret_shr (Tryz.results121) rfl ?_
        rw [hp, cmp_end (by omega) hk hk', if_neg (by omega), if_pos (by omega)])
     · first
       | exact Bool.noConfusion hb19
       | (
        refine nav ?_
        obtain ⟨y, hy⟩ := get_some (show k < m.length by omega)
        have e2 := map_at (f := pStr) hy
        have hs := cmp_step hx hy
        (refine aC_region ?_
          <;> refine xL 20 q_move ?_
          <;> refine xL 21 q_move ?_
          <;> refine xL 22 (q_idxN tSl51_LbA) ?_
          <;> (refine yL 23 (q_ld tNa9_LbA) fun v23 hv23 => ?_; cases hv23)
          <;> refine xL 7 q_assign ?_
          <;> refine aL_end (nav ?_) <;> try dsimp only)
        (refine aC_region ?_
          <;> refine xL 24 q_move ?_
          <;> refine xL 25 q_move ?_
          <;> (refine cS 26 (cA Tryz.call101 (cmpString_e x y)) fun v26 hv26 => ?_; cases hv26)
          <;> refine xL 8 q_assign ?_
          <;> refine aL_end (nav ?_) <;> try dsimp only)
        (refine aC_region ?_
          <;> refine xL 27 q_move ?_
          <;> refine xL 28 q_neq ?_
          <;> refine aL_end (nav ?_) <;> try dsimp only)
        first | refine cCd (fun hb28 => ?_) (fun hb28 => ?_) | refine cC (fun hb28 => ?_) (fun hb28 => ?_)
        · first
          | exact Bool.noConfusion hb28
          | (
           refine nav ?_
           (refine aC_region ?_
             <;> refine xL 29 q_move ?_
             <;> refine xL 4 q_assign ?_
             <;> refine aL_end (nav ?_) <;> try dsimp only)
           refine ret_shr (Tryz.results121) rfl ?_
           rw [hp, hs, if_neg hb28])
        · first
          | exact Bool.noConfusion hb28
          | (
           refine nav ?_
           (refine aC_region ?_
             <;> refine xL 30 q_add ?_
             <;> refine xL 11 q_move ?_
             <;> refine aL_end (nav ?_) <;> try dsimp only)
           refine aN_again (
             ⟨k + 1, by omega, by omega, by rw [hp, hs, if_pos (by simpa using hb28)]⟩
             ) (by dsimp only; omega) ⟨rfl, rfl, rfl, rfl, rfl, trivial⟩ trivial)))
  · first
    | exact Bool.noConfusion hb12
    | (
     refine nav ?_
     (refine aC_region ?_
       <;> refine xL 31 q_move ?_
       <;> refine xL 32 (q_len tSl51_LbA) ?_
       <;> refine xL 33 q_move ?_
       <;> refine xL 34 (q_len tSl51_LbA) ?_
       <;> refine xL 35 q_lss ?_
       <;> refine aL_end (nav ?_) <;> try dsimp only)
     first | refine cCd (fun hb35 => ?_) (fun hb35 => ?_) | refine cC (fun hb35 => ?_) (fun hb35 => ?_)
     · first
       | exact Bool.noConfusion hb35
       | (
        refine nav ?_
        (refine aC_region ?_
          <;> refine xL 4 q_assign ?_
          <;> refine aL_end (nav ?_) <;> try dsimp only)
        refine ret_shr (Tryz.results121) rfl ?_
        rw [hp, cmp_end (by omega) hk hk', if_pos (by omega)])
     · first
       | exact Bool.noConfusion hb35
       | (
        refine nav ?_
        (refine aC_region ?_
          <;> refine xL 4 q_assign ?_
          <;> refine aL_end (nav ?_) <;> try dsimp only)
        refine ret_shr (Tryz.results121) rfl ?_
        rw [hp, cmp_end (by omega) hk hk', if_neg (by omega), if_neg (by omega)]))
theorem nameCompare_e (l m : List ByteArray) : AF Tryz.prog 95 [pStrs l, pStrs m] (· = pInt (cmpStrs l m)) := by
  refine AF.of_body 8 Tryz.func95 rfl Tryz.ntmps95 (Nat.le_of_ble_eq_true rfl) ?_
  intro w0 M0 vs hl hv
  obtain ⟨v0, v1, rfl⟩ := len2 hl
  clear hl hv
  refine nav ?_
  (refine aC_region ?_
    <;> refine xL 4 q_assign ?_
    <;> refine aL_end (nav ?_) <;> try dsimp only)
  (refine aC_region ?_
    <;> refine xL 5 q_move ?_
    <;> refine xL 6 q_move ?_
    <;> (refine cS 7 (cA Tryz.call121 (compareStrs_e l m)) fun v7 hv7 => ?_; cases hv7)
    <;> refine xL 4 q_assign ?_
    <;> refine aL_end (nav ?_) <;> try dsimp only)
  exact ret_shr Tryz.results95 rfl rfl
end Go.Proofs.YtebcjijpdhbcdaaGreat

namespace Go.Proofs.YtebcjijpdhbcdaaGreat
open Go.RowKit Go.Cb Go.En
set_option linter.all false
set_option maxRecDepth 100000

theorem tAgg44_LbB : AggT Tryz.prog 44 2 = true := by kernel_rfl
theorem tAgg47_LbB : AggT Tryz.prog 47 3 = true := by kernel_rfl
theorem tNa3_LbB : NoAgg Tryz.prog 3 = true := by kernel_rfl
theorem tNa9_LbB : NoAgg Tryz.prog 9 = true := by kernel_rfl
theorem tSl25_LbB : SlT Tryz.prog 25 44 2 = true := by kernel_rfl
theorem tSl26_LbB : SlT Tryz.prog 26 47 3 = true := by kernel_rfl
theorem tSl51_LbB : SlT Tryz.prog 51 9 1 = true := by kernel_rfl
theorem tSl63_LbB : SlT Tryz.prog 63 3 1 = true := by kernel_rfl

structure Cnt where
  name : ByteArray
  n : Int
structure Flw where
  src : ByteArray
  dst : ByteArray
  n : Int
structure Dfg where
  acts : List Cnt
  starts : List Cnt
  ends : List Cnt
  follows : List Flw
def cCnt (x : Cnt) : List PV := [pStr x.name, pInt x.n]
def cFlw (x : Flw) : List PV := [pStr x.src, pStr x.dst, pInt x.n]
theorem cCnt_len (x : Cnt) : (cCnt x).length = 2 := rfl
theorem cFlw_len (x : Flw) : (cFlw x).length = 3 := rfl
def pCnts (l : List Cnt) : PV := .sl l.length (l.flatMap cCnt)
def pFlws (l : List Flw) : PV := .sl l.length (l.flatMap cFlw)
def pDfg (g : Dfg) : PV := .agg [pCnts g.acts, pCnts g.starts, pCnts g.ends, pFlws g.follows]
def pInts (l : List Int) : PV := .sl l.length (l.map pInt)
def pIntss (l : List (List Int)) : PV := .sl l.length (l.map pInts)

theorem indexFuncStr_e (f : Nat) (caps : List PV) (p : ByteArray → Bool) (l : List (ByteArray)) (hc : ∀ args w, (callFunc f args).run Tryz.prog w = .ok (.enter f args) w) (hf : ∀ s ∈ l, AF Tryz.prog f (pStr s :: caps) (· = pBool (p s))) : AF Tryz.prog 93 [pStrs l, .fn f caps] (· = pInt (idx p l)) := by
  refine AF.of_body 19 Tryz.func93 rfl Tryz.ntmps93 (Nat.le_of_ble_eq_true rfl) ?_
  intro w0 M0 vs hl hv
  obtain ⟨v0, v1, rfl⟩ := len2 hl
  clear hl hv
  refine aC_slen 0 rfl fun hlen => ?_
  refine nav ?_
  (refine aC_region ?_
    <;> refine xL 4 q_assign ?_
    <;> refine aL_end (nav ?_) <;> try dsimp only)
  (refine aC_region ?_
    <;> refine xL 6 q_move ?_
    <;> refine xL 7 (q_len tSl51_LbB) ?_
    <;> refine xL 8 q_move ?_
    <;> refine aL_end (nav ?_) <;> try dsimp only)
  refine aC_loop (ι := { k : Nat // k ≤ l.length ∧ ∀ i y, i < k → l[i]? = some y → p y = false }) (fun k => ⟨[(0, _, _), (1, _, _), (7, _, _), (8, .int .i64 k.1, pInt k.1)], []⟩) (fun k => l.length - k.1) ⟨0, by omega, by omega⟩ (fun a w H => H.weaken ⟨rfl, rfl, rfl, rfl, trivial⟩ trivial) ?_
  rintro ⟨k, hk, hp⟩
  dsimp only
  refine nav ?_
  (refine aC_region ?_
    <;> refine xL 9 q_lss ?_
    <;> refine aL_end (nav ?_) <;> try dsimp only)
  first | refine cCd (fun hb9 => ?_) (fun hb9 => ?_) | refine cC (fun hb9 => ?_) (fun hb9 => ?_)
  · first
    | exact Bool.noConfusion hb9
    | (
     obtain ⟨x, hx⟩ := get_some (show k < l.length by omega)
     have e1 := map_at (f := pStr) hx
     refine nav ?_
     (refine aC_region ?_
       <;> refine xL 10 q_move ?_
       <;> refine xL 5 q_assign ?_
       <;> refine aL_end (nav ?_) <;> try dsimp only)
     (refine aC_region ?_
       <;> refine xL 11 q_move ?_
       <;> refine xL 12 q_move ?_
       <;> refine xL 13 q_move ?_
       <;> refine xL 14 (q_idxN tSl51_LbB) ?_
       <;> (refine yL 15 (q_ld tNa9_LbB) fun v15 hv15 => ?_; cases hv15)
       <;> (refine cS 16 (callF (f := f) (ps := caps) rfl ⟨_, rfl⟩ hc rfl (hf x (List.mem_of_getElem? hx))) fun v16 hv16 => ?_; cases hv16)
       <;> refine aL_end (nav ?_) <;> try dsimp only)
     first | refine cCd (fun hb16 => ?_) (fun hb16 => ?_) | refine cC (fun hb16 => ?_) (fun hb16 => ?_)
     · first
       | exact Bool.noConfusion hb16
       | (
        refine nav ?_
        (refine aC_region ?_
          <;> refine xL 17 q_move ?_
          <;> refine xL 4 q_assign ?_
          <;> refine aL_end (nav ?_) <;> try dsimp only)
        refine ret_shr (Tryz.results93) rfl ?_
        rw [idx_here hp hx hb16])
     · first
       | exact Bool.noConfusion hb16
       | (
        refine nav ?_
        (refine aC_region ?_
          <;> refine xL 18 q_add ?_
          <;> refine xL 8 q_move ?_
          <;> refine aL_end (nav ?_) <;> try dsimp only)
        refine aN_again (
          ⟨k + 1, by omega, fun i y hi hy => by
            by_cases e : i = k
            · subst e; rw [hx] at hy; cases hy; exact hb16
            · exact hp i y (by omega) hy⟩
          ) (by dsimp only; omega) ⟨rfl, rfl, rfl, rfl, trivial⟩ trivial))
  · first
    | exact Bool.noConfusion hb9
    | (
     refine nav ?_
     (refine aC_region ?_
       <;> refine xL 4 q_assign ?_
       <;> refine aL_end (nav ?_) <;> try dsimp only)
     refine ret_shr (Tryz.results93) rfl ?_
     rw [idx_none fun i y hi hy => hp i y (by omega) hy])
theorem containsFuncStr_e (f : Nat) (caps : List PV) (p : ByteArray → Bool) (l : List (ByteArray)) (hc : ∀ args w, (callFunc f args).run Tryz.prog w = .ok (.enter f args) w) (hf : ∀ s ∈ l, AF Tryz.prog f (pStr s :: caps) (· = pBool (p s))) : AF Tryz.prog 46 [pStrs l, .fn f caps] (· = pBool (l.any p)) := by
  refine AF.of_body 9 Tryz.func46 rfl Tryz.ntmps46 (Nat.le_of_ble_eq_true rfl) ?_
  intro w0 M0 vs hl hv
  obtain ⟨v0, v1, rfl⟩ := len2 hl
  clear hl hv
  refine nav ?_
  (refine aC_region ?_
    <;> refine xL 4 q_assign ?_
    <;> refine aL_end (nav ?_) <;> try dsimp only)
  (refine aC_region ?_
    <;> refine xL 5 q_move ?_
    <;> refine xL 6 q_move ?_
    <;> (refine cS 7 (cA Tryz.call93 (indexFuncStr_e f caps p l hc hf)) fun v7 hv7 => ?_; cases hv7)
    <;> refine xL 8 q_geq ?_
    <;> refine xL 4 q_assign ?_
    <;> refine aL_end (nav ?_) <;> try dsimp only)
  refine ret_shr (Tryz.results46) rfl ?_
  rw [idx_any]
theorem indexFuncInt_e (f : Nat) (caps : List PV) (p : Int → Bool) (l : List (Int)) (hc : ∀ args w, (callFunc f args).run Tryz.prog w = .ok (.enter f args) w) (hf : ∀ s ∈ l, AF Tryz.prog f (pInt s :: caps) (· = pBool (p s))) : AF Tryz.prog 115 [pInts l, .fn f caps] (· = pInt (idx p l)) := by
  refine AF.of_body 19 Tryz.func115 rfl Tryz.ntmps115 (Nat.le_of_ble_eq_true rfl) ?_
  intro w0 M0 vs hl hv
  obtain ⟨v0, v1, rfl⟩ := len2 hl
  clear hl hv
  refine aC_slen 0 rfl fun hlen => ?_
  refine nav ?_
  (refine aC_region ?_
    <;> refine xL 4 q_assign ?_
    <;> refine aL_end (nav ?_) <;> try dsimp only)
  (refine aC_region ?_
    <;> refine xL 6 q_move ?_
    <;> refine xL 7 (q_len tSl63_LbB) ?_
    <;> refine xL 8 q_move ?_
    <;> refine aL_end (nav ?_) <;> try dsimp only)
  refine aC_loop (ι := { k : Nat // k ≤ l.length ∧ ∀ i y, i < k → l[i]? = some y → p y = false }) (fun k => ⟨[(0, _, _), (1, _, _), (7, _, _), (8, .int .i64 k.1, pInt k.1)], []⟩) (fun k => l.length - k.1) ⟨0, by omega, by omega⟩ (fun a w H => H.weaken ⟨rfl, rfl, rfl, rfl, trivial⟩ trivial) ?_
  rintro ⟨k, hk, hp⟩
  dsimp only
  refine nav ?_
  (refine aC_region ?_
    <;> refine xL 9 q_lss ?_
    <;> refine aL_end (nav ?_) <;> try dsimp only)
  first | refine cCd (fun hb9 => ?_) (fun hb9 => ?_) | refine cC (fun hb9 => ?_) (fun hb9 => ?_)
  · first
    | exact Bool.noConfusion hb9
    | (
     obtain ⟨x, hx⟩ := get_some (show k < l.length by omega)
     have e1 := map_at (f := pInt) hx
     refine nav ?_
     (refine aC_region ?_
       <;> refine xL 10 q_move ?_
       <;> refine xL 5 q_assign ?_
       <;> refine aL_end (nav ?_) <;> try dsimp only)
     (refine aC_region ?_
       <;> refine xL 11 q_move ?_
       <;> refine xL 12 q_move ?_
       <;> refine xL 13 q_move ?_
       <;> refine xL 14 (q_idxN tSl63_LbB) ?_
       <;> (refine yL 15 (q_ld tNa3_LbB) fun v15 hv15 => ?_; cases hv15)
       <;> (refine cS 16 (callF (f := f) (ps := caps) rfl ⟨_, rfl⟩ hc rfl (hf x (List.mem_of_getElem? hx))) fun v16 hv16 => ?_; cases hv16)
       <;> refine aL_end (nav ?_) <;> try dsimp only)
     first | refine cCd (fun hb16 => ?_) (fun hb16 => ?_) | refine cC (fun hb16 => ?_) (fun hb16 => ?_)
     · first
       | exact Bool.noConfusion hb16
       | (
        refine nav ?_
        (refine aC_region ?_
          <;> refine xL 17 q_move ?_
          <;> refine xL 4 q_assign ?_
          <;> refine aL_end (nav ?_) <;> try dsimp only)
        refine ret_shr (Tryz.results115) rfl ?_
        rw [idx_here hp hx hb16])
     · first
       | exact Bool.noConfusion hb16
       | (
        refine nav ?_
        (refine aC_region ?_
          <;> refine xL 18 q_add ?_
          <;> refine xL 8 q_move ?_
          <;> refine aL_end (nav ?_) <;> try dsimp only)
        refine aN_again (
          ⟨k + 1, by omega, fun i y hi hy => by
            by_cases e : i = k
            · subst e; rw [hx] at hy; cases hy; exact hb16
            · exact hp i y (by omega) hy⟩
          ) (by dsimp only; omega) ⟨rfl, rfl, rfl, rfl, trivial⟩ trivial))
  · first
    | exact Bool.noConfusion hb9
    | (
     refine nav ?_
     (refine aC_region ?_
       <;> refine xL 4 q_assign ?_
       <;> refine aL_end (nav ?_) <;> try dsimp only)
     refine ret_shr (Tryz.results115) rfl ?_
     rw [idx_none fun i y hi hy => hp i y (by omega) hy])
theorem containsFuncInt_e (f : Nat) (caps : List PV) (p : Int → Bool) (l : List (Int)) (hc : ∀ args w, (callFunc f args).run Tryz.prog w = .ok (.enter f args) w) (hf : ∀ s ∈ l, AF Tryz.prog f (pInt s :: caps) (· = pBool (p s))) : AF Tryz.prog 80 [pInts l, .fn f caps] (· = pBool (l.any p)) := by
  refine AF.of_body 9 Tryz.func80 rfl Tryz.ntmps80 (Nat.le_of_ble_eq_true rfl) ?_
  intro w0 M0 vs hl hv
  obtain ⟨v0, v1, rfl⟩ := len2 hl
  clear hl hv
  refine nav ?_
  (refine aC_region ?_
    <;> refine xL 4 q_assign ?_
    <;> refine aL_end (nav ?_) <;> try dsimp only)
  (refine aC_region ?_
    <;> refine xL 5 q_move ?_
    <;> refine xL 6 q_move ?_
    <;> (refine cS 7 (cA Tryz.call115 (indexFuncInt_e f caps p l hc hf)) fun v7 hv7 => ?_; cases hv7)
    <;> refine xL 8 q_geq ?_
    <;> refine xL 4 q_assign ?_
    <;> refine aL_end (nav ?_) <;> try dsimp only)
  refine ret_shr (Tryz.results80) rfl ?_
  rw [idx_any]
theorem indexFuncCount_e (f : Nat) (caps : List PV) (p : Cnt → Bool) (l : List (Cnt)) (hc : ∀ args w, (callFunc f args).run Tryz.prog w = .ok (.enter f args) w) (hf : ∀ s ∈ l, AF Tryz.prog f (.agg (cCnt s) :: caps) (· = pBool (p s))) : AF Tryz.prog 99 [pCnts l, .fn f caps] (· = pInt (idx p l)) := by
  refine AF.of_body 19 Tryz.func99 rfl Tryz.ntmps99 (Nat.le_of_ble_eq_true rfl) ?_
  intro w0 M0 vs hl hv
  obtain ⟨v0, v1, rfl⟩ := len2 hl
  clear hl hv
  refine aC_slen 0 rfl fun hlen => ?_
  refine nav ?_
  (refine aC_region ?_
    <;> refine xL 4 q_assign ?_
    <;> refine aL_end (nav ?_) <;> try dsimp only)
  (refine aC_region ?_
    <;> refine xL 6 q_move ?_
    <;> refine xL 7 (q_len tSl25_LbB) ?_
    <;> refine xL 8 q_move ?_
    <;> refine aL_end (nav ?_) <;> try dsimp only)
  refine aC_loop (ι := { k : Nat // k ≤ l.length ∧ ∀ i y, i < k → l[i]? = some y → p y = false }) (fun k => ⟨[(0, _, _), (1, _, _), (7, _, _), (8, .int .i64 k.1, pInt k.1)], []⟩) (fun k => l.length - k.1) ⟨0, by omega, by omega⟩ (fun a w H => H.weaken ⟨rfl, rfl, rfl, rfl, trivial⟩ trivial) ?_
  rintro ⟨k, hk, hp⟩
  dsimp only
  refine nav ?_
  (refine aC_region ?_
    <;> refine xL 9 q_lss ?_
    <;> refine aL_end (nav ?_) <;> try dsimp only)
  first | refine cCd (fun hb9 => ?_) (fun hb9 => ?_) | refine cC (fun hb9 => ?_) (fun hb9 => ?_)
  · first
    | exact Bool.noConfusion hb9
    | (
     obtain ⟨x, hx⟩ := get_some (show k < l.length by omega)
     have e1 := flat_drop cCnt_len l k x hx; have e2 := flat_fit cCnt_len hx
     refine nav ?_
     (refine aC_region ?_
       <;> refine xL 10 q_move ?_
       <;> refine xL 5 q_assign ?_
       <;> refine aL_end (nav ?_) <;> try dsimp only)
     (refine aC_region ?_
       <;> refine xL 11 q_move ?_
       <;> refine xL 12 q_move ?_
       <;> refine xL 13 q_move ?_
       <;> refine xL 14 (q_idxN tSl25_LbB) ?_
       <;> (refine yL 15 (q_lda tAgg44_LbB) fun v15 hv15 => ?_; cases hv15)
       <;> (refine cS 16 (callF (f := f) (ps := caps) rfl ⟨_, rfl⟩ hc rfl (hf x (List.mem_of_getElem? hx))) fun v16 hv16 => ?_; cases hv16)
       <;> refine aL_end (nav ?_) <;> try dsimp only)
     first | refine cCd (fun hb16 => ?_) (fun hb16 => ?_) | refine cC (fun hb16 => ?_) (fun hb16 => ?_)
     · first
       | exact Bool.noConfusion hb16
       | (
        refine nav ?_
        (refine aC_region ?_
          <;> refine xL 17 q_move ?_
          <;> refine xL 4 q_assign ?_
          <;> refine aL_end (nav ?_) <;> try dsimp only)
        refine ret_shr (Tryz.results99) rfl ?_
        rw [idx_here hp hx hb16])
     · first
       | exact Bool.noConfusion hb16
       | (
        refine nav ?_
        (refine aC_region ?_
          <;> refine xL 18 q_add ?_
          <;> refine xL 8 q_move ?_
          <;> refine aL_end (nav ?_) <;> try dsimp only)
        refine aN_again (
          ⟨k + 1, by omega, fun i y hi hy => by
            by_cases e : i = k
            · subst e; rw [hx] at hy; cases hy; exact hb16
            · exact hp i y (by omega) hy⟩
          ) (by dsimp only; omega) ⟨rfl, rfl, rfl, rfl, trivial⟩ trivial))
  · first
    | exact Bool.noConfusion hb9
    | (
     refine nav ?_
     (refine aC_region ?_
       <;> refine xL 4 q_assign ?_
       <;> refine aL_end (nav ?_) <;> try dsimp only)
     refine ret_shr (Tryz.results99) rfl ?_
     rw [idx_none fun i y hi hy => hp i y (by omega) hy])
theorem containsFuncCount_e (f : Nat) (caps : List PV) (p : Cnt → Bool) (l : List (Cnt)) (hc : ∀ args w, (callFunc f args).run Tryz.prog w = .ok (.enter f args) w) (hf : ∀ s ∈ l, AF Tryz.prog f (.agg (cCnt s) :: caps) (· = pBool (p s))) : AF Tryz.prog 56 [pCnts l, .fn f caps] (· = pBool (l.any p)) := by
  refine AF.of_body 9 Tryz.func56 rfl Tryz.ntmps56 (Nat.le_of_ble_eq_true rfl) ?_
  intro w0 M0 vs hl hv
  obtain ⟨v0, v1, rfl⟩ := len2 hl
  clear hl hv
  refine nav ?_
  (refine aC_region ?_
    <;> refine xL 4 q_assign ?_
    <;> refine aL_end (nav ?_) <;> try dsimp only)
  (refine aC_region ?_
    <;> refine xL 5 q_move ?_
    <;> refine xL 6 q_move ?_
    <;> (refine cS 7 (cA Tryz.call99 (indexFuncCount_e f caps p l hc hf)) fun v7 hv7 => ?_; cases hv7)
    <;> refine xL 8 q_geq ?_
    <;> refine xL 4 q_assign ?_
    <;> refine aL_end (nav ?_) <;> try dsimp only)
  refine ret_shr (Tryz.results56) rfl ?_
  rw [idx_any]
theorem indexFuncFollow_e (f : Nat) (caps : List PV) (p : Flw → Bool) (l : List (Flw)) (hc : ∀ args w, (callFunc f args).run Tryz.prog w = .ok (.enter f args) w) (hf : ∀ s ∈ l, AF Tryz.prog f (.agg (cFlw s) :: caps) (· = pBool (p s))) : AF Tryz.prog 102 [pFlws l, .fn f caps] (· = pInt (idx p l)) := by
  refine AF.of_body 19 Tryz.func102 rfl Tryz.ntmps102 (Nat.le_of_ble_eq_true rfl) ?_
  intro w0 M0 vs hl hv
  obtain ⟨v0, v1, rfl⟩ := len2 hl
  clear hl hv
  refine aC_slen 0 rfl fun hlen => ?_
  refine nav ?_
  (refine aC_region ?_
    <;> refine xL 4 q_assign ?_
    <;> refine aL_end (nav ?_) <;> try dsimp only)
  (refine aC_region ?_
    <;> refine xL 6 q_move ?_
    <;> refine xL 7 (q_len tSl26_LbB) ?_
    <;> refine xL 8 q_move ?_
    <;> refine aL_end (nav ?_) <;> try dsimp only)
  refine aC_loop (ι := { k : Nat // k ≤ l.length ∧ ∀ i y, i < k → l[i]? = some y → p y = false }) (fun k => ⟨[(0, _, _), (1, _, _), (7, _, _), (8, .int .i64 k.1, pInt k.1)], []⟩) (fun k => l.length - k.1) ⟨0, by omega, by omega⟩ (fun a w H => H.weaken ⟨rfl, rfl, rfl, rfl, trivial⟩ trivial) ?_
  rintro ⟨k, hk, hp⟩
  dsimp only
  refine nav ?_
  (refine aC_region ?_
    <;> refine xL 9 q_lss ?_
    <;> refine aL_end (nav ?_) <;> try dsimp only)
  first | refine cCd (fun hb9 => ?_) (fun hb9 => ?_) | refine cC (fun hb9 => ?_) (fun hb9 => ?_)
  · first
    | exact Bool.noConfusion hb9
    | (
     obtain ⟨x, hx⟩ := get_some (show k < l.length by omega)
     have e1 := flat_drop cFlw_len l k x hx; have e2 := flat_fit cFlw_len hx
     refine nav ?_
     (refine aC_region ?_
       <;> refine xL 10 q_move ?_
       <;> refine xL 5 q_assign ?_
       <;> refine aL_end (nav ?_) <;> try dsimp only)
     (refine aC_region ?_
       <;> refine xL 11 q_move ?_
       <;> refine xL 12 q_move ?_
       <;> refine xL 13 q_move ?_
       <;> refine xL 14 (q_idxN tSl26_LbB) ?_
       <;> (refine yL 15 (q_lda tAgg47_LbB) fun v15 hv15 => ?_; cases hv15)
       <;> (refine cS 16 (callF (f := f) (ps := caps) rfl ⟨_, rfl⟩ hc rfl (hf x (List.mem_of_getElem? hx))) fun v16 hv16 => ?_; cases hv16)
       <;> refine aL_end (nav ?_) <;> try dsimp only)
     first | refine cCd (fun hb16 => ?_) (fun hb16 => ?_) | refine cC (fun hb16 => ?_) (fun hb16 => ?_)
     · first
       | exact Bool.noConfusion hb16
       | (
        refine nav ?_
        (refine aC_region ?_
          <;> refine xL 17 q_move ?_
          <;> refine xL 4 q_assign ?_
          <;> refine aL_end (nav ?_) <;> try dsimp only)
        refine ret_shr (Tryz.results102) rfl ?_
        rw [idx_here hp hx hb16])
     · first
       | exact Bool.noConfusion hb16
       | (
        refine nav ?_
        (refine aC_region ?_
          <;> refine xL 18 q_add ?_
          <;> refine xL 8 q_move ?_
          <;> refine aL_end (nav ?_) <;> try dsimp only)
        refine aN_again (
          ⟨k + 1, by omega, fun i y hi hy => by
            by_cases e : i = k
            · subst e; rw [hx] at hy; cases hy; exact hb16
            · exact hp i y (by omega) hy⟩
          ) (by dsimp only; omega) ⟨rfl, rfl, rfl, rfl, trivial⟩ trivial))
  · first
    | exact Bool.noConfusion hb9
    | (
     refine nav ?_
     (refine aC_region ?_
       <;> refine xL 4 q_assign ?_
       <;> refine aL_end (nav ?_) <;> try dsimp only)
     refine ret_shr (Tryz.results102) rfl ?_
     rw [idx_none fun i y hi hy => hp i y (by omega) hy])
theorem containsFuncFollow_e (f : Nat) (caps : List PV) (p : Flw → Bool) (l : List (Flw)) (hc : ∀ args w, (callFunc f args).run Tryz.prog w = .ok (.enter f args) w) (hf : ∀ s ∈ l, AF Tryz.prog f (.agg (cFlw s) :: caps) (· = pBool (p s))) : AF Tryz.prog 62 [pFlws l, .fn f caps] (· = pBool (l.any p)) := by
  refine AF.of_body 9 Tryz.func62 rfl Tryz.ntmps62 (Nat.le_of_ble_eq_true rfl) ?_
  intro w0 M0 vs hl hv
  obtain ⟨v0, v1, rfl⟩ := len2 hl
  clear hl hv
  refine nav ?_
  (refine aC_region ?_
    <;> refine xL 4 q_assign ?_
    <;> refine aL_end (nav ?_) <;> try dsimp only)
  (refine aC_region ?_
    <;> refine xL 5 q_move ?_
    <;> refine xL 6 q_move ?_
    <;> (refine cS 7 (cA Tryz.call102 (indexFuncFollow_e f caps p l hc hf)) fun v7 hv7 => ?_; cases hv7)
    <;> refine xL 8 q_geq ?_
    <;> refine xL 4 q_assign ?_
    <;> refine aL_end (nav ?_) <;> try dsimp only)
  refine ret_shr (Tryz.results62) rfl ?_
  rw [idx_any]
end Go.Proofs.YtebcjijpdhbcdaaGreat

namespace Go.Proofs.YtebcjijpdhbcdaaGreat
open Go.RowKit Go.Cb Go.En
set_option linter.all false
set_option maxRecDepth 100000

theorem tAgg60_LbC : AggT Tryz.prog 60 2 = true := by kernel_rfl
theorem tFl60_0_LbC : FldT Tryz.prog 60 0 0 = true := by kernel_rfl
theorem tFl60_1_LbC : FldT Tryz.prog 60 1 1 = true := by kernel_rfl
theorem tNa3_LbC : NoAgg Tryz.prog 3 = true := by kernel_rfl
theorem tNa51_LbC : NoAgg Tryz.prog 51 = true := by kernel_rfl
theorem tSl22_LbC : SlT Tryz.prog 22 60 2 = true := by kernel_rfl
theorem tSl51_LbC : SlT Tryz.prog 51 9 1 = true := by kernel_rfl
theorem tZr60_LbC : ZeroT Tryz.prog 60 (.agg #[(.slice none 0 0), (.int .i64 0)]) := by unfold ZeroT; kernel_rfl

def fitS (l : List ByteArray) : Prop := l.length ≤ 140737488355328 ∧ ∀ s ∈ l, s.size ≤ 140737488355328
def fitV (l : List Var) : Prop := l.length ≤ 140737488355328 ∧ ∀ x ∈ l, fitS x.acts ∧ -9223372036854775808 ≤ x.count ∧ x.count ≤ 9223372036854775807
theorem elNames1_e (s : ByteArray) (hs : s.size ≤ 9223372036854775807) : AF Tryz.prog 120 [pStr s] (· = pBool (!isName s)) := by
  refine AF.of_body 6 Tryz.func120 rfl Tryz.ntmps120 (Nat.le_of_ble_eq_true rfl) ?_
  intro w0 M0 vs hl hv
  obtain ⟨v0, rfl⟩ := len1 hl
  obtain rfl := hv 0 _ _ rfl rfl
  clear hl hv
  refine nav ?_
  (refine aC_region ?_
    <;> refine xL 2 q_assign ?_
    <;> refine aL_end (nav ?_) <;> try dsimp only)
  (refine aC_region ?_
    <;> refine xL 3 q_move ?_
    <;> (refine cS 4 (cA Tryz.call98 (isName_e s hs)) fun v4 hv4 => ?_; cases hv4)
    <;> refine xL 5 q_not ?_
    <;> refine xL 2 q_assign ?_
    <;> refine aL_end (nav ?_) <;> try dsimp only)
  exact ret_shr Tryz.results120 rfl rfl
theorem elNames_e (l : List ByteArray) (hf : fitS l) : AF Tryz.prog 94 [pStrs l] (· = pBool (l.all isName)) := by
  refine AF.of_body 6 Tryz.func94 rfl Tryz.ntmps94 (Nat.le_of_ble_eq_true rfl) ?_
  intro w0 M0 vs hl hv
  obtain ⟨v0, rfl⟩ := len1 hl
  clear hl hv
  refine nav ?_
  (refine aC_region ?_
    <;> refine xL 2 q_assign ?_
    <;> refine aL_end (nav ?_) <;> try dsimp only)
  (refine aC_region ?_
    <;> refine xL 3 q_move ?_
    <;> (refine cS 4 (cA Tryz.call46 (containsFuncStr_e 120 [] (fun s => !isName s) l (Tryz.call120) (fun s hs => elNames1_e s (by have := hf.2 s hs; omega)))) fun v4 hv4 => ?_; cases hv4)
    <;> refine xL 5 q_not ?_
    <;> refine xL 2 q_assign ?_
    <;> refine aL_end (nav ?_) <;> try dsimp only)
  refine ret_shr (Tryz.results94) rfl (bool_val ?_)
  simp
theorem okVar_no {x : Var} (h : 200 < x.acts.length ∨ x.acts.all isName = false ∨ x.count < 1 ∨ 1048576 < x.count) : okVar x = false := by
  unfold okVar
  rcases h with h | h | h | h
  · rw [decide_eq_false (show ¬ x.acts.length ≤ 200 by omega)]; simp
  · rw [h]; simp
  · rw [decide_eq_false (show ¬ 1 ≤ x.count by omega)]; simp
  · rw [decide_eq_false (show ¬ x.count ≤ 1048576 by omega)]; simp
theorem okVar_yes {x : Var} (h1 : x.acts.length ≤ 200) (h2 : x.acts.all isName = true) (h3 : 1 ≤ x.count) (h4 : x.count ≤ 1048576) : okVar x = true := by
  unfold okVar; rw [decide_eq_true h1, h2, decide_eq_true h3, decide_eq_true h4]; rfl
theorem stepOk_bad {l : List Var} {k : Nat} {x : Var} (h : l[k]? = some x) (ho : okVar x = false) : stepOk l k = false := by
  unfold stepOk; rw [h]; simp [ho]
theorem stepOk_cmp {l : List Var} {k : Nat} {x y : Var} (h : l[k]? = some x) (hy : l[k - 1]? = some y) (hk : 0 < k) (hc : 0 ≤ cmpStrs y.acts x.acts) : stepOk l k = false := by
  rw [stepOk_pos h hy hk, decide_eq_false (show ¬ cmpStrs y.acts x.acts < 0 by omega)]; simp
theorem stepOk_good {l : List Var} {k : Nat} {x y : Var} (h : l[k]? = some x) (hy : l[k - 1]? = some y) (ho : okVar x = true) (hc : 0 < k → cmpStrs y.acts x.acts < 0) : stepOk l k = true := by
  rcases Nat.eq_zero_or_pos k with h0 | h0
  · subst h0; rw [stepOk_zero h]; exact ho
  · rw [stepOk_pos h hy h0, ho, decide_eq_true (hc h0)]; rfl
theorem validVariants_e (l : List Var) (hf : fitV l) : AF Tryz.prog 47 [pVars l] (· = pBool (validVars l)) := by
  refine AF.of_body 52 Tryz.func47 rfl Tryz.ntmps47 (Nat.le_of_ble_eq_true rfl) ?_
  intro w0 M0 vs hl hv
  obtain ⟨v0, rfl⟩ := len1 hl
  clear hl hv
  refine aC_slen 0 rfl fun hlen => ?_
  refine nav ?_
  (refine aC_region ?_
    <;> refine xL 2 q_assign ?_
    <;> refine aL_end (nav ?_) <;> try dsimp only)
  (refine aC_region ?_
    <;> refine xL 5 q_move ?_
    <;> refine xL 6 (q_len tSl22_LbC) ?_
    <;> refine xL 7 q_gtr ?_
    <;> refine aL_end (nav ?_) <;> try dsimp only)
  first | refine cCd (fun hb7 => ?_) (fun hb7 => ?_) | refine cC (fun hb7 => ?_) (fun hb7 => ?_)
  · first
    | exact Bool.noConfusion hb7
    | (
     refine nav ?_
     (refine aC_region ?_
       <;> refine xL 2 q_assign ?_
       <;> refine aL_end (nav ?_) <;> try dsimp only)
     refine ret_shr (Tryz.results47) rfl ?_
     rw [show validVars l = false by unfold validVars; rw [decide_eq_false (show ¬ l.length ≤ 300 by omega)]; simp])
  · first
    | exact Bool.noConfusion hb7
    | (
     refine nav ?_
     (refine aC_region ?_
       <;> refine xL 8 q_move ?_
       <;> refine xL 9 (q_len tSl22_LbC) ?_
       <;> refine xL 10 q_move ?_
       <;> refine aL_end (nav ?_) <;> try dsimp only)
     refine aC_loop (ι := { k : Nat // k ≤ l.length ∧ ∀ j, j < k → stepOk l j = true }) (fun k => ⟨[(0, _, _), (8, _, _), (9, _, _), (10, .int .i64 k.1, pInt k.1)], []⟩) (fun k => l.length - k.1) ⟨0, by omega, by omega⟩ (fun a w H => H.weaken ⟨rfl, rfl, rfl, rfl, trivial⟩ trivial) ?_
     rintro ⟨k, hk, hp⟩
     dsimp only
     refine nav ?_
     (refine aC_region ?_
       <;> refine xL 11 q_lss ?_
       <;> refine aL_end (nav ?_) <;> try dsimp only)
     first | refine cCd (fun hb11 => ?_) (fun hb11 => ?_) | refine cC (fun hb11 => ?_) (fun hb11 => ?_)
     · first
       | exact Bool.noConfusion hb11
       | (
        have hlt : k < l.length := by omega
        obtain ⟨x, hx⟩ := get_some hlt
        obtain ⟨y, hy⟩ := get_some (show k - 1 < l.length by omega)
        have e1 := flat_drop cVar_len l k x hx
        have e2 := flat_fit cVar_len hx
        have e3 : (l.flatMap cVar)[((k : Int) - 1).toNat * 2 + 0]? = some (pStrs y.acts) := by rw [show ((k : Int) - 1).toNat * 2 + 0 = (k - 1) * 2 + 0 by omega]; exact flat_at cVar_len hy (by decide)
        have hfx := hf.2 x (List.mem_of_getElem? hx)
        have hxl := hfx.1.1
        refine nav ?_
        (refine aC_region ?_
          <;> refine xL 12 q_move ?_
          <;> refine xL 13 (q_idxN tSl22_LbC) ?_
          <;> (refine yL 14 (q_lda tAgg60_LbC) fun v14 hv14 => ?_; cases hv14)
          <;> refine s_alloc [(.slice none 0 0), (.int .i64 0)] 2 4 tZr60_LbC fun h4 => ?_
          <;> refine xL 3 q_assign ?_
          <;> refine s_sta 4 tAgg60_LbC ?_
          <;> refine aL_end (nav ?_) <;> try dsimp only)
        (refine aC_draw (fun i => ([] : List Nat).elem i) [4] (by kernel_rfl) ?_
          <;> refine xE 0 15 rfl (q_fldo 4 tFl60_0_LbC) ?_
          <;> (refine yE 1 16 rfl (q_ldo 4 tNa51_LbC) fun v16 hv16 => ?_; cases hv16)
          <;> refine xE 2 17 rfl (q_len tSl51_LbC) ?_
          <;> refine xE 3 18 rfl q_gtr ?_
          <;> refine xE 4 19 rfl q_move ?_
          <;> (refine bDd 19 (fun hb19 => ?_) (fun hb19 => ?_) <;> (first | refine kD 5 20 rfl ?_ | refine xD 5 20 rfl (q_fldo 4 tFl60_0_LbC) ?_))
          <;> (first | refine kD 6 21 rfl ?_ | (refine yD 6 21 rfl (q_ldo 4 tNa51_LbC) fun v21 hv21 => ?_; cases hv21))
          <;> (refine aD_one 7 (by kernel_rfl) ?_)
          <;> (refine aW_run rfl fun w9 M9 N9 DQ back => ?_)
          <;> (first | refine kL 22 ?_ | (refine cS 22 (cA Tryz.call94 (elNames_e x.acts hfx.1)) fun v22 hv22 => ?_; cases hv22))
          <;> refine aL_end (back _ (nrm ?_))
          <;> (first | refine kD 8 23 rfl ?_ | refine xD 8 23 rfl q_not ?_)
          <;> refine xE 9 24 rfl q_pick ?_
          <;> refine xE 10 25 rfl q_move ?_
          <;> (first | refine kD 11 26 rfl ?_ | (refine bD 25 (fun hb25 => ?_) (fun hb25 => ?_) <;> (first | refine kD 11 26 rfl ?_ | refine xD 11 26 rfl (q_fldo 4 tFl60_1_LbC) ?_)))
          <;> (first | refine kD 12 27 rfl ?_ | (refine yD 12 27 rfl (q_ldo 4 tNa3_LbC) fun v27 hv27 => ?_; cases hv27))
          <;> (first | refine kD 13 28 rfl ?_ | refine xD 13 28 rfl q_lss ?_)
          <;> refine xE 14 29 rfl q_pick ?_
          <;> refine xE 15 30 rfl q_move ?_
          <;> (first | refine kD 16 31 rfl ?_ | (refine bDd 30 (fun hb30 => ?_) (fun hb30 => ?_) <;> (first | refine kD 16 31 rfl ?_ | refine xD 16 31 rfl (q_fldo 4 tFl60_1_LbC) ?_)))
          <;> (first | refine kD 17 32 rfl ?_ | (refine yD 17 32 rfl (q_ldo 4 tNa3_LbC) fun v32 hv32 => ?_; cases hv32))
          <;> (first | refine kD 18 33 rfl ?_ | refine xD 18 33 rfl q_gtr ?_)
          <;> refine xE 19 34 rfl q_pick ?_
          <;> refine xE 20 35 rfl q_move ?_
          <;> (first | refine kD 21 36 rfl ?_ | (refine bDd 35 (fun hb35 => ?_) (fun hb35 => ?_) <;> (first | refine kD 21 36 rfl ?_ | refine xD 21 36 rfl q_move ?_)))
          <;> (first | refine kD 22 37 rfl ?_ | refine xD 22 37 rfl q_gtr ?_)
          <;> (first | refine kD 23 38 rfl ?_ | refine xD 23 38 rfl q_move ?_)
          <;> (first | refine kD 24 39 rfl ?_ | (refine bDd 38 (fun hb38 => ?_) (fun hb38 => ?_) <;> (first | refine kD 24 39 rfl ?_ | refine xD 24 39 rfl q_move ?_)))
          <;> (first | refine kD 25 40 rfl ?_ | refine xD 25 40 rfl q_move ?_)
          <;> (first | refine kD 26 41 rfl ?_ | refine xD 26 41 rfl q_sub ?_)
          <;> (first | refine kD 27 42 rfl ?_ | refine xD 27 42 rfl (q_idx tSl22_LbC) ?_)
          <;> (first | refine kD 28 43 rfl ?_ | refine xD 28 43 rfl (q_fld tFl60_0_LbC) ?_)
          <;> (first | refine kD 29 44 rfl ?_ | (refine yD 29 44 rfl (q_ld tNa51_LbC) fun v44 hv44 => ?_; cases hv44))
          <;> (first | refine kD 30 45 rfl ?_ | refine xD 30 45 rfl (q_fldo 4 tFl60_0_LbC) ?_)
          <;> (first | refine kD 31 46 rfl ?_ | (refine yD 31 46 rfl (q_ldo 4 tNa51_LbC) fun v46 hv46 => ?_; cases hv46))
          <;> (refine aD_one 32 (by kernel_rfl) ?_)
          <;> (refine aW_run rfl fun w9 M9 N9 DQ back => ?_)
          <;> (first | refine kL 47 ?_ | (refine cS 47 (cA Tryz.call95 (nameCompare_e y.acts x.acts)) fun v47 hv47 => ?_; cases hv47))
          <;> refine aL_end (back _ (nrm ?_))
          <;> (first | refine kD 33 48 rfl ?_ | refine xD 33 48 rfl q_geq ?_)
          <;> (first | refine kD 34 49 rfl ?_ | refine xD 34 49 rfl q_pick ?_)
          <;> refine xE 35 50 rfl q_pick ?_
          <;> refine aD_end (by kernel_rfl) (nav ?_)
          <;> try dsimp only) <;> (
         first | refine cCd (fun hb50 => ?_) (fun hb50 => ?_) | refine cC (fun hb50 => ?_) (fun hb50 => ?_)
         · first
           | exact Bool.noConfusion hb50
           | (
            refine nav ?_
            (refine aC_region ?_
              <;> refine xL 2 q_assign ?_
              <;> refine aL_end (nav ?_) <;> try dsimp only)
            refine ret_shr (Tryz.results47) rfl ?_
            rw [validVars_stop hlt]
            first
              | exact stepOk_bad hx (okVar_no (.inl (by omega)))
              | exact stepOk_bad hx (okVar_no (.inr (.inl (by simpa using hb25))))
              | exact stepOk_bad hx (okVar_no (.inr (.inr (.inl (by omega)))))
              | exact stepOk_bad hx (okVar_no (.inr (.inr (.inr (by omega)))))
              | exact stepOk_cmp hx hy (by omega) (by omega))
         · first
           | exact Bool.noConfusion hb50
           | (
            refine nav ?_
            (refine aC_region ?_
              <;> refine xL 51 q_add ?_
              <;> refine xL 10 q_move ?_
              <;> refine aL_end (nav ?_) <;> try dsimp only)
            refine aN_again (
              ⟨k + 1, by omega, fun j hj => by
                by_cases e : j = k
                · subst e
                  exact stepOk_good hx hy (okVar_yes (by omega) (by simpa using hb25) (by omega) (by omega)) (by omega)
                · exact hp j (by omega)⟩
              ) (by dsimp only; omega) ⟨rfl, rfl, rfl, rfl, trivial⟩ trivial)))
     · first
       | exact Bool.noConfusion hb11
       | (
        refine nav ?_
        (refine aC_region ?_
          <;> refine xL 2 q_assign ?_
          <;> refine aL_end (nav ?_) <;> try dsimp only)
        refine ret_shr (Tryz.results47) rfl ?_
        rw [validVars_end (by omega) (fun j hj => hp j (by omega))]))
end Go.Proofs.YtebcjijpdhbcdaaGreat

namespace Go.Proofs.YtebcjijpdhbcdaaGreat
open Go.RowKit Go.Cb Go.En
set_option linter.all false
set_option maxRecDepth 100000

theorem tAgg44_LbD : AggT Tryz.prog 44 2 = true := by kernel_rfl
theorem tAgg47_LbD : AggT Tryz.prog 47 3 = true := by kernel_rfl
theorem tEl103_LbD : ElT Tryz.prog 103 25 1 24 (.slice none 0 0) := ⟨Tryz.underlying103, by kernel_rfl, rfl, by decide⟩
theorem tEl51_LbD : ElT Tryz.prog 51 9 1 16 (.string ByteArray.empty) := ⟨Tryz.underlying51, by kernel_rfl, rfl, by decide⟩
theorem tEl63_LbD : ElT Tryz.prog 63 3 1 8 (.int .i64 0) := ⟨Tryz.underlying63, by kernel_rfl, rfl, by decide⟩
theorem tFl28_0_LbD : FldT Tryz.prog 28 0 0 = true := by kernel_rfl
theorem tFl28_1_LbD : FldT Tryz.prog 28 1 1 = true := by kernel_rfl
theorem tFl28_2_LbD : FldT Tryz.prog 28 2 2 = true := by kernel_rfl
theorem tFl28_3_LbD : FldT Tryz.prog 28 3 3 = true := by kernel_rfl
theorem tFl44_0_LbD : FldT Tryz.prog 44 0 0 = true := by kernel_rfl
theorem tFl44_1_LbD : FldT Tryz.prog 44 1 1 = true := by kernel_rfl
theorem tFl47_0_LbD : FldT Tryz.prog 47 0 0 = true := by kernel_rfl
theorem tFl47_1_LbD : FldT Tryz.prog 47 1 1 = true := by kernel_rfl
theorem tFl47_2_LbD : FldT Tryz.prog 47 2 2 = true := by kernel_rfl
theorem tNa25_LbD : NoAgg Tryz.prog 25 = true := by kernel_rfl
theorem tNa26_LbD : NoAgg Tryz.prog 26 = true := by kernel_rfl
theorem tNa3_LbD : NoAgg Tryz.prog 3 = true := by kernel_rfl
theorem tNa9_LbD : NoAgg Tryz.prog 9 = true := by kernel_rfl
theorem tSl103_LbD : SlT Tryz.prog 103 25 1 = true := by kernel_rfl
theorem tSl25_LbD : SlT Tryz.prog 25 44 2 = true := by kernel_rfl
theorem tSl26_LbD : SlT Tryz.prog 26 47 3 = true := by kernel_rfl
theorem tSl51_LbD : SlT Tryz.prog 51 9 1 = true := by kernel_rfl
theorem tSl63_LbD : SlT Tryz.prog 63 3 1 = true := by kernel_rfl
theorem tZr44_LbD : ZeroT Tryz.prog 44 (.agg #[(.string ByteArray.empty), (.int .i64 0)]) := by unfold ZeroT; kernel_rfl
theorem tZr47_LbD : ZeroT Tryz.prog 47 (.agg #[(.string ByteArray.empty), (.string ByteArray.empty), (.int .i64 0)]) := by unfold ZeroT; kernel_rfl

def cnames (l : List Cnt) : List ByteArray := l.map (·.name)
def countedB (n : Int) : Bool := decide (1 ≤ n) && decide (n ≤ 4503599627370496)
def ascB (l all : List ByteArray) : Bool := chainB strLt l && l.all (hasStr all)
def flwCmp (a b : Flw) : Int := if cmpStr a.src b.src = 0 then cmpStr a.dst b.dst else cmpStr a.src b.src
def flwOk (acts : List ByteArray) (f : Flw) : Bool := countedB f.n && hasStr acts f.src && hasStr acts f.dst
def flwLt (a b : Flw) : Bool := decide (flwCmp a b < 0)
def dfgOk (g : Dfg) : Bool := alphaB (cnames g.acts) && ascB (cnames g.starts) (cnames g.acts) && ascB (cnames g.ends) (cnames g.acts) && g.acts.all (fun c => countedB c.n) && g.starts.all (fun c => countedB c.n) && g.ends.all (fun c => countedB c.n) && g.follows.all (flwOk (cnames g.acts)) && chainB flwLt g.follows
def fitCnt (l : List Cnt) : Prop := l.length ≤ 140737488355328 ∧ ∀ c ∈ l, c.name.size ≤ 140737488355328 ∧ -9223372036854775808 ≤ c.n ∧ c.n ≤ 9223372036854775807
def fitFlw (l : List Flw) : Prop := l.length ≤ 140737488355328 ∧ ∀ c ∈ l, c.src.size ≤ 140737488355328 ∧ c.dst.size ≤ 140737488355328 ∧ -9223372036854775808 ≤ c.n ∧ c.n ≤ 9223372036854775807
def fitD (g : Dfg) : Prop := fitCnt g.acts ∧ fitCnt g.starts ∧ fitCnt g.ends ∧ fitFlw g.follows
theorem share_strs (e n : Nat) (l : List ByteArray) : share (.own e 1 n (l.map pStr)) = .sl n (l.map pStr) := by
  rw [share, shares_eq, List.map_map]; rfl
theorem cnames_take {l : List Cnt} {k : Nat} {x : Cnt} (h : l[k]? = some x) : cnames (l.take (k + 1)) = cnames (l.take k) ++ [x.name] := by
  unfold cnames; rw [take_snoc h, List.map_append]; rfl
theorem dNames_e (l : List Cnt) (hl0 : l.length ≤ 1000000) : AF Tryz.prog 53 [pCnts l] (· = pStrs (cnames l)) := by
  refine AF.of_body 19 Tryz.func53 rfl Tryz.ntmps53 (Nat.le_of_ble_eq_true rfl) ?_
  intro w0 M0 vs hl hv
  obtain ⟨v0, rfl⟩ := len1 hl
  clear hl hv
  refine nav ?_
  (refine aC_region ?_
    <;> refine xL 2 q_assign ?_
    <;> refine aL_end (nav ?_) <;> try dsimp only)
  (refine aC_region ?_
    <;> refine xL 3 q_assign ?_
    <;> refine aL_end (nav ?_) <;> try dsimp only)
  (refine aC_region ?_
    <;> refine xL 6 q_move ?_
    <;> refine xL 7 (q_len tSl25_LbD) ?_
    <;> refine xL 8 q_move ?_
    <;> refine aL_end (nav ?_) <;> try dsimp only)
  refine aC_ent (nilOwn 200 9 1 rfl) fun _ => ?_
  refine aC_loop (ι := { x : Nat × Value // x.1 ≤ l.length }) (fun k => ⟨[(6, _, _), (7, _, _), (3, k.1.2, .val k.1.2), (8, .int .i64 k.1.1, pInt k.1.1)], [(200, k.1.2, .own 9 1 k.1.1 ((cnames (l.take k.1.1)).map pStr))]⟩) (fun k => l.length - k.1.1) ⟨(0, .slice none 0 0), by omega⟩ (fun a w H => H.weaken ⟨rfl, rfl, rfl, rfl, trivial⟩ ⟨rfl, trivial⟩) ?_
  rintro ⟨⟨k, h3⟩, hk⟩
  dsimp only
  dsimp only at hk
  refine nav ?_
  (refine aC_region ?_
    <;> refine xL 9 q_lss ?_
    <;> refine aL_end (nav ?_) <;> try dsimp only)
  first | refine cCd (fun hb9 => ?_) (fun hb9 => ?_) | refine cC (fun hb9 => ?_) (fun hb9 => ?_)
  · first
    | exact Bool.noConfusion hb9
    | (
     obtain ⟨x, hx⟩ := get_some (show k < l.length by omega)
     have e1 := flat_drop cCnt_len l k x hx
     have e2 := flat_fit cCnt_len hx
     have e3 : ((cnames (l.take k)).map pStr).length = k := by simp [cnames]; omega
     refine nav ?_
     (refine aC_region ?_
       <;> refine xL 10 (q_idxN tSl25_LbD) ?_
       <;> (refine yL 11 (q_lda tAgg44_LbD) fun v11 hv11 => ?_; cases hv11)
       <;> refine s_alloc [(.string ByteArray.empty), (.int .i64 0)] 2 5 tZr44_LbD fun h5 => ?_
       <;> refine s_sta 5 tAgg44_LbD ?_
       <;> refine aL_end (nav ?_) <;> try dsimp only)
     (refine aC_region ?_
       <;> refine xL 12 q_move ?_
       <;> refine xL 13 (q_fldo 5 tFl44_0_LbD) ?_
       <;> (refine yL 14 (q_ldo 5 tNa9_LbD) fun v14 hv14 => ?_; cases hv14)
       <;> refine s_lit1 (kk := 1) 15 tEl51_LbD fun h15 ho15 => ?_
       <;> refine s_app 200 15 16 tEl51_LbD fun h16 ho16 => ?_
       <;> refine xL 3 q_assign ?_
       <;> refine aL_end (nav ?_) <;> try dsimp only)
     (refine aC_region ?_
       <;> refine xL 17 q_add ?_
       <;> refine xL 8 q_move ?_
       <;> refine aL_end (nav ?_) <;> try dsimp only)
     refine aN_ent (relabel (l := 16) 200 rfl rfl) fun _ => ?_
     rw [show (cnames (l.take k)).map pStr ++ [pStr x.name] = (cnames (l.take (k + 1))).map pStr by rw [cnames_take hx, List.map_append]; rfl]
     refine aN_again (
       ⟨(k + 1, h16), by show k + 1 ≤ l.length; omega⟩
       ) (by dsimp only; omega) ⟨rfl, rfl, rfl, rfl, trivial⟩ ⟨rfl, trivial⟩)
  · first
    | exact Bool.noConfusion hb9
    | (
     refine nav ?_
     (refine aC_region ?_
       <;> refine xL 18 q_move ?_
       <;> refine xL 2 q_assign ?_
       <;> refine aL_end (nav ?_) <;> try dsimp only)
     refine aR_ent (En.freeze (l := 200) (t := 2) rfl rfl) fun _ => ?_
     refine ret_shr (Tryz.results53) rfl ?_
     obtain rfl : k = l.length := by omega
     rw [List.take_length, share_strs]
     unfold pStrs cnames; rw [List.length_map])
theorem dAscends_e (l all : List ByteArray) : AF Tryz.prog 55 [pStrs l, pStrs all] (· = pBool (ascB l all)) := by
  refine AF.of_body 32 Tryz.func55 rfl Tryz.ntmps55 (Nat.le_of_ble_eq_true rfl) ?_
  intro w0 M0 vs hl hv
  obtain ⟨v0, v1, rfl⟩ := len2 hl
  clear hl hv
  refine aC_slen 0 rfl fun hlen => ?_
  refine nav ?_
  (refine aC_region ?_
    <;> refine xL 4 q_assign ?_
    <;> refine aL_end (nav ?_) <;> try dsimp only)
  (refine aC_region ?_
    <;> refine xL 7 q_move ?_
    <;> refine xL 8 (q_len tSl51_LbD) ?_
    <;> refine xL 9 q_move ?_
    <;> refine aL_end (nav ?_) <;> try dsimp only)
  refine aC_loop (ι := { k : Nat // k ≤ l.length ∧ ∀ j x, j < k → l[j]? = some x → hasStr all x = true ∧ ∀ y, 1 ≤ j → l[j - 1]? = some y → strLt y x = true }) (fun k => ⟨[(0, _, _), (1, _, _), (7, _, _), (8, _, _), (9, .int .i64 k.1, pInt k.1)], []⟩) (fun k => l.length - k.1) ⟨0, by omega, by omega⟩ (fun a w H => H.weaken ⟨rfl, rfl, rfl, rfl, rfl, trivial⟩ trivial) ?_
  rintro ⟨k, hk, hp⟩
  dsimp only
  refine nav ?_
  (refine aC_region ?_
    <;> refine xL 10 q_lss ?_
    <;> refine aL_end (nav ?_) <;> try dsimp only)
  first | refine cCd (fun hb10 => ?_) (fun hb10 => ?_) | refine cC (fun hb10 => ?_) (fun hb10 => ?_)
  · first
    | exact Bool.noConfusion hb10
    | (
     obtain ⟨x, hx⟩ := get_some (show k < l.length by omega)
     obtain ⟨y, hy⟩ := get_some (show k - 1 < l.length by omega)
     have e1 := map_at (f := pStr) hx
     have e2 : (l.map pStr)[((k : Int) - 1).toNat * 1]? = some (pStr y) := by rw [show ((k : Int) - 1).toNat * 1 = k - 1 by omega]; exact (by rw [List.getElem?_map, hy]; rfl)
     refine nav ?_
     (refine aC_region ?_
       <;> refine xL 11 q_move ?_
       <;> refine xL 12 (q_idxN tSl51_LbD) ?_
       <;> (refine yL 13 (q_ld tNa9_LbD) fun v13 hv13 => ?_; cases hv13)
       <;> refine xL 5 q_assign ?_
       <;> refine xL 6 q_assign ?_
       <;> refine aL_end (nav ?_) <;> try dsimp only)
     (refine aC_region ?_
       <;> refine xL 14 q_move ?_
       <;> refine xL 15 q_gtr ?_
       <;> refine xL 16 q_move ?_
       <;> (refine bLd 16 (fun hb16 => ?_) (fun hb16 => ?_) <;> (first | refine kL 17 ?_ | refine xL 17 q_move ?_))
       <;> (first | refine kL 18 ?_ | refine xL 18 q_move ?_)
       <;> (first | refine kL 19 ?_ | refine xL 19 q_sub ?_)
       <;> (first | refine kL 20 ?_ | refine xL 20 (q_idx tSl51_LbD) ?_)
       <;> (first | refine kL 21 ?_ | (refine yL 21 (q_ld tNa9_LbD) fun v21 hv21 => ?_; cases hv21))
       <;> (first | refine kL 22 ?_ | refine xL 22 q_move ?_)
       <;> (first | refine kL 23 ?_ | refine xL 23 q_sgeq ?_)
       <;> refine xL 24 q_pick ?_
       <;> refine xL 25 q_move ?_
       <;> (first | refine xL 26 q_move ?_ | (refine bL 25 (fun hb25 => ?_) (fun hb25 => ?_) <;> (first | refine kL 26 ?_ | refine xL 26 q_move ?_)))
       <;> (first | refine kL 27 ?_ | refine xL 27 q_move ?_)
       <;> (first | refine kL 28 ?_ | (refine cS 28 (cA Tryz.call60 (sContainsStr_e all x)) fun v28 hv28 => ?_; cases hv28))
       <;> (first | refine kL 29 ?_ | refine xL 29 q_not ?_)
       <;> refine xL 30 q_pick ?_
       <;> refine aL_end (nav ?_) <;> try dsimp only) <;> (
      first | refine cCd (fun hb30 => ?_) (fun hb30 => ?_) | refine cC (fun hb30 => ?_) (fun hb30 => ?_)
      · first
        | exact Bool.noConfusion hb30
        | (
         refine nav ?_
         (refine aC_region ?_
           <;> refine xL 4 q_assign ?_
           <;> refine aL_end (nav ?_) <;> try dsimp only)
         refine ret_shr (Tryz.results55) rfl ?_
         unfold ascB
         first
           | rw [chainB_stop (by omega) hy hx (by simpa [strLt] using hb25)]; rfl
           | rw [all_stop hx (by simpa using hb30)]; simp)
      · first
        | exact Bool.noConfusion hb30
        | (
         refine nav ?_
         (refine aC_region ?_
           <;> refine xL 31 q_add ?_
           <;> refine xL 9 q_move ?_
           <;> refine aL_end (nav ?_) <;> try dsimp only)
         refine aN_again (
           ⟨k + 1, by omega, fun j z hj hz => by
             by_cases e : j = k
             · subst e; rw [hx] at hz; cases hz
               refine ⟨by simpa using hb30, fun y' h1 hy' => ?_⟩
               rw [hy] at hy'; cases hy'
               first | omega | simpa [strLt] using hb25
             · exact hp j z (by omega) hz⟩
           ) (by dsimp only; omega) ⟨rfl, rfl, rfl, rfl, rfl, trivial⟩ trivial)))
  · first
    | exact Bool.noConfusion hb10
    | (
     refine nav ?_
     (refine aC_region ?_
       <;> refine xL 4 q_assign ?_
       <;> refine aL_end (nav ?_) <;> try dsimp only)
     refine ret_shr (Tryz.results55) rfl ?_
     have h1 : l.all (hasStr all) = true := all_end fun j x hj => (hp j x (by have := lt_of_get hj; omega) hj).1
     have h2 : chainB strLt l = true := chainB_end fun j x y h1 hy hx => (hp j x (by have := lt_of_get hx; omega) hx).2 y h1 hy
     unfold ascB; rw [h1, h2]; rfl)
def firstNZ : List Int → Int
  | [] => 0
  | x :: l => if x = 0 then firstNZ l else x
theorem cmpOr_e (l : List Int) : AF Tryz.prog 100 [pInts l] (· = pInt (firstNZ l)) := by
  refine AF.of_body 18 Tryz.func100 rfl Tryz.ntmps100 (Nat.le_of_ble_eq_true rfl) ?_
  intro w0 M0 vs hl hv
  obtain ⟨v0, rfl⟩ := len1 hl
  clear hl hv
  refine aC_slen 0 rfl fun hlen => ?_
  refine nav ?_
  (refine aC_region ?_
    <;> refine xL 2 q_assign ?_
    <;> refine aL_end (nav ?_) <;> try dsimp only)
  (refine aC_region ?_
    <;> refine xL 3 q_assign ?_
    <;> refine aL_end (nav ?_) <;> try dsimp only)
  (refine aC_region ?_
    <;> refine xL 6 q_move ?_
    <;> refine xL 7 (q_len tSl63_LbD) ?_
    <;> refine xL 8 q_move ?_
    <;> refine aL_end (nav ?_) <;> try dsimp only)
  refine aC_loop (ι := { k : Nat // k ≤ l.length ∧ firstNZ l = firstNZ (l.drop k) }) (fun k => ⟨[(3, _, _), (6, _, _), (7, _, _), (8, .int .i64 k.1, pInt k.1)], []⟩) (fun k => l.length - k.1) ⟨0, by omega, rfl⟩ (fun a w H => H.weaken ⟨rfl, rfl, rfl, rfl, trivial⟩ trivial) ?_
  rintro ⟨k, hk, hp⟩
  dsimp only
  refine nav ?_
  (refine aC_region ?_
    <;> refine xL 9 q_lss ?_
    <;> refine aL_end (nav ?_) <;> try dsimp only)
  first | refine cCd (fun hb9 => ?_) (fun hb9 => ?_) | refine cC (fun hb9 => ?_) (fun hb9 => ?_)
  · first
    | exact Bool.noConfusion hb9
    | (
     obtain ⟨x, hx⟩ := get_some (show k < l.length by omega)
     have e1 := map_at (f := pInt) hx
     have hs : firstNZ (l.drop k) = if x = 0 then firstNZ (l.drop (k + 1)) else x := by rw [drop_at hx, firstNZ]
     refine nav ?_
     (refine aC_region ?_
       <;> refine xL 10 (q_idxN tSl63_LbD) ?_
       <;> (refine yL 11 (q_ld tNa3_LbD) fun v11 hv11 => ?_; cases hv11)
       <;> refine xL 5 q_assign ?_
       <;> refine aL_end (nav ?_) <;> try dsimp only)
     (refine aC_region ?_
       <;> refine xL 12 q_move ?_
       <;> refine xL 13 q_move ?_
       <;> refine xL 14 q_neq ?_
       <;> refine aL_end (nav ?_) <;> try dsimp only)
     first | refine cCd (fun hb14 => ?_) (fun hb14 => ?_) | refine cC (fun hb14 => ?_) (fun hb14 => ?_)
     · first
       | exact Bool.noConfusion hb14
       | (
        refine nav ?_
        (refine aC_region ?_
          <;> refine xL 15 q_move ?_
          <;> refine xL 2 q_assign ?_
          <;> refine aL_end (nav ?_) <;> try dsimp only)
        refine ret_shr (Tryz.results100) rfl ?_
        rw [hp, hs, if_neg hb14])
     · first
       | exact Bool.noConfusion hb14
       | (
        refine nav ?_
        (refine aC_region ?_
          <;> refine xL 16 q_add ?_
          <;> refine xL 8 q_move ?_
          <;> refine aL_end (nav ?_) <;> try dsimp only)
        refine aN_again (
          ⟨k + 1, by omega, by rw [hp, hs, if_pos (by simpa using hb14)]⟩
          ) (by dsimp only; omega) ⟨rfl, rfl, rfl, rfl, trivial⟩ trivial))
  · first
    | exact Bool.noConfusion hb9
    | (
     refine nav ?_
     (refine aC_region ?_
       <;> refine xL 17 q_move ?_
       <;> refine xL 2 q_assign ?_
       <;> refine aL_end (nav ?_) <;> try dsimp only)
     refine ret_shr (Tryz.results100) rfl ?_
     rw [hp, List.drop_eq_nil_of_le (by omega)]; rfl)
theorem dFollows_e (a b : Flw) : AF Tryz.prog 59 [.agg (cFlw a), .agg (cFlw b)] (· = pInt (flwCmp a b)) := by
  refine AF.of_body 17 Tryz.func59 rfl Tryz.ntmps59 (Nat.le_of_ble_eq_true rfl) ?_
  intro w0 M0 vs hl hv
  obtain ⟨v0, v1, rfl⟩ := len2 hl
  clear hl hv
  refine nav ?_
  (refine aC_region ?_
    <;> refine s_boxa 2 3 fun h2 => ?_
    <;> refine s_boxa 3 3 fun h3 => ?_
    <;> refine xL 4 q_assign ?_
    <;> refine aL_end (nav ?_) <;> try dsimp only)
  (refine aC_draw (fun i => ([] : List Nat).elem i) [2, 3] (by kernel_rfl) ?_
    <;> refine xD 0 5 rfl (q_fldo 2 tFl47_0_LbD) ?_
    <;> (refine yD 1 6 rfl (q_ldo 2 tNa9_LbD) fun v6 hv6 => ?_; cases hv6)
    <;> refine xD 2 7 rfl (q_fldo 3 tFl47_0_LbD) ?_
    <;> (refine yD 3 8 rfl (q_ldo 3 tNa9_LbD) fun v8 hv8 => ?_; cases hv8)
    <;> refine xD 5 10 rfl (q_fldo 2 tFl47_1_LbD) ?_
    <;> (refine yD 6 11 rfl (q_ldo 2 tNa9_LbD) fun v11 hv11 => ?_; cases hv11)
    <;> refine xD 7 12 rfl (q_fldo 3 tFl47_1_LbD) ?_
    <;> (refine yD 8 13 rfl (q_ldo 3 tNa9_LbD) fun v13 hv13 => ?_; cases hv13)
    <;> (refine aD_one 4 (by kernel_rfl) ?_)
    <;> (refine aW_run rfl fun w9 M9 N9 DQ back => ?_)
    <;> (refine cS 9 (cA Tryz.call101 (cmpString_e a.src b.src)) fun v9 hv9 => ?_; cases hv9)
    <;> refine aL_end (back _ (nrm ?_))
    <;> (refine aD_one 9 (by kernel_rfl) ?_)
    <;> (refine aW_run rfl fun w9 M9 N9 DQ back => ?_)
    <;> (refine cS 14 (cA Tryz.call101 (cmpString_e a.dst b.dst)) fun v14 hv14 => ?_; cases hv14)
    <;> refine aL_end (back _ (nrm ?_))
    <;> (refine aD_one 10 (by kernel_rfl) ?_)
    <;> (refine aW_run rfl fun w9 M9 N9 DQ back => ?_)
    <;> refine s_litn (xs := [_, _]) 15 tEl63_LbD fun h15 ho15 => ?_
    <;> refine aL_end (back _ (nrm ?_))
    <;> (refine aD_one 11 (by kernel_rfl) ?_)
    <;> (refine aW_run rfl fun w9 M9 N9 DQ back => ?_)
    <;> (refine aL_ent (En.freeze (l := 15) (t := 15) rfl rfl) fun _ => ?_; refine cS 16 (cA Tryz.call100 (cmpOr_e [cmpStr a.src b.src, cmpStr a.dst b.dst])) fun v16 hv16 => ?_; cases hv16)
    <;> refine aL_end (back _ (nrm ?_))
    <;> refine xE 12 4 rfl q_assign ?_
    <;> refine aD_end (by kernel_rfl) (nav ?_)
    <;> try dsimp only)
  refine ret_shr (Tryz.results59) rfl ?_
  unfold flwCmp firstNZ firstNZ firstNZ
  by_cases h : cmpStr a.src b.src = 0
  · rw [if_pos h, if_pos h]; split <;> simp_all
  · rw [if_neg h, if_neg h]
theorem dCounted_e (n : Int) : AF Tryz.prog 58 [pInt n] (· = pBool (countedB n)) := by
  refine AF.of_body 9 Tryz.func58 rfl Tryz.ntmps58 (Nat.le_of_ble_eq_true rfl) ?_
  intro w0 M0 vs hl hv
  obtain ⟨v0, rfl⟩ := len1 hl
  obtain rfl := hv 0 _ _ rfl rfl
  clear hl hv
  refine nav ?_
  (refine aC_region ?_
    <;> refine xL 2 q_assign ?_
    <;> refine aL_end (nav ?_) <;> try dsimp only)
  (refine aC_region ?_
    <;> refine xL 3 q_move ?_
    <;> refine xL 4 q_geq ?_
    <;> refine xL 5 q_move ?_
    <;> (refine bLd 5 (fun hb5 => ?_) (fun hb5 => ?_) <;> (first | refine kL 6 ?_ | refine xL 6 q_move ?_))
    <;> (first | refine kL 7 ?_ | refine xL 7 q_leq ?_)
    <;> refine xL 8 q_pick ?_
    <;> refine xL 2 q_assign ?_
    <;> refine aL_end (nav ?_) <;> try dsimp only) <;> (
   refine ret_shr (Tryz.results58) rfl (bool_val ?_)
   simp only [countedB, Bool.and_eq_true, decide_eq_true_eq, true_iff, false_iff, Bool.false_eq_true] <;> omega)
theorem dValid1_e (c : Cnt) : AF Tryz.prog 57 [.agg (cCnt c)] (· = pBool (!countedB c.n)) := by
  refine AF.of_body 7 Tryz.func57 rfl Tryz.ntmps57 (Nat.le_of_ble_eq_true rfl) ?_
  intro w0 M0 vs hl hv
  obtain ⟨v0, rfl⟩ := len1 hl
  clear hl hv
  refine nav ?_
  (refine aC_region ?_
    <;> refine s_boxa 1 2 fun h1 => ?_
    <;> refine xL 2 q_assign ?_
    <;> refine aL_end (nav ?_) <;> try dsimp only)
  (refine aC_region ?_
    <;> refine xL 3 (q_fldo 1 tFl44_1_LbD) ?_
    <;> (refine yL 4 (q_ldo 1 tNa3_LbD) fun v4 hv4 => ?_; cases hv4)
    <;> (refine cS 5 (cA Tryz.call58 (dCounted_e c.n)) fun v5 hv5 => ?_; cases hv5)
    <;> refine xL 6 q_not ?_
    <;> refine xL 2 q_assign ?_
    <;> refine aL_end (nav ?_) <;> try dsimp only)
  exact ret_shr Tryz.results57 rfl rfl
theorem dfg_no {g : Dfg} (h : alphaB (cnames g.acts) = false ∨ ascB (cnames g.starts) (cnames g.acts) = false ∨ ascB (cnames g.ends) (cnames g.acts) = false ∨ g.acts.all (fun c => countedB c.n) = false ∨ g.starts.all (fun c => countedB c.n) = false ∨ g.ends.all (fun c => countedB c.n) = false ∨ g.follows.all (flwOk (cnames g.acts)) = false ∨ chainB flwLt g.follows = false) : dfgOk g = false := by
  unfold dfgOk
  rcases h with h | h | h | h | h | h | h | h <;> rw [h] <;> simp
theorem any_not {α : Type} {p : α → Bool} {l : List α} : (l.any fun c => !p c) = !l.all p := by
  induction l with
  | nil => rfl
  | cons x l ih => rw [List.any_cons, List.all_cons, ih, Bool.not_and]
theorem dValid_e (g : Dfg) (hf : fitD g) (ha : g.acts.length ≤ 1000000) (hs : g.starts.length ≤ 1000000) (he : g.ends.length ≤ 1000000) : AF Tryz.prog 16 [pDfg g] (· = pBool (dfgOk g)) := by
  refine AF.of_body 87 Tryz.func16 rfl Tryz.ntmps16 (Nat.le_of_ble_eq_true rfl) ?_
  intro w0 M0 vs hl hv
  obtain ⟨v0, rfl⟩ := len1 hl
  clear hl hv
  refine nav ?_
  (refine aC_region ?_
    <;> refine s_boxa 1 4 fun h1 => ?_
    <;> refine xL 2 q_assign ?_
    <;> refine aL_end (nav ?_) <;> try dsimp only)
  (refine aC_region ?_
    <;> refine xL 8 (q_fldo 1 tFl28_0_LbD) ?_
    <;> (refine yL 9 (q_ldo 1 tNa25_LbD) fun v9 hv9 => ?_; cases hv9)
    <;> (refine cS 10 (cA Tryz.call53 (dNames_e g.acts ha)) fun v10 hv10 => ?_; cases hv10)
    <;> refine xL 3 q_assign ?_
    <;> refine aL_end (nav ?_) <;> try dsimp only)
  (refine aC_region ?_
    <;> refine xL 11 q_move ?_
    <;> (refine cS 12 (cA Tryz.call54 (alphabet_e (cnames g.acts) (fun s hs => by obtain ⟨c, hc, rfl⟩ := List.mem_map.1 hs; exact (hf.1.2 c hc).1))) fun v12 hv12 => ?_; cases hv12)
    <;> refine xL 13 q_not ?_
    <;> refine xL 14 q_move ?_
    <;> (refine bL 14 (fun hb14 => ?_) (fun hb14 => ?_) <;> (first | refine kL 15 ?_ | refine xL 15 (q_fldo 1 tFl28_1_LbD) ?_))
    <;> (first | refine kL 16 ?_ | (refine yL 16 (q_ldo 1 tNa25_LbD) fun v16 hv16 => ?_; cases hv16))
    <;> (first | refine kL 17 ?_ | (refine cS 17 (cA Tryz.call53 (dNames_e g.starts hs)) fun v17 hv17 => ?_; cases hv17))
    <;> (first | refine kL 18 ?_ | refine xL 18 q_move ?_)
    <;> (first | refine kL 19 ?_ | (refine cS 19 (cA Tryz.call55 (dAscends_e (cnames g.starts) (cnames g.acts))) fun v19 hv19 => ?_; cases hv19))
    <;> (first | refine kL 20 ?_ | refine xL 20 q_not ?_)
    <;> refine xL 21 q_pick ?_
    <;> refine xL 22 q_move ?_
    <;> (first | refine kL 23 ?_ | (refine bL 22 (fun hb22 => ?_) (fun hb22 => ?_) <;> (first | refine kL 23 ?_ | refine xL 23 (q_fldo 1 tFl28_2_LbD) ?_)))
    <;> (first | refine kL 24 ?_ | (refine yL 24 (q_ldo 1 tNa25_LbD) fun v24 hv24 => ?_; cases hv24))
    <;> (first | refine kL 25 ?_ | (refine cS 25 (cA Tryz.call53 (dNames_e g.ends he)) fun v25 hv25 => ?_; cases hv25))
    <;> (first | refine kL 26 ?_ | refine xL 26 q_move ?_)
    <;> (first | refine kL 27 ?_ | (refine cS 27 (cA Tryz.call55 (dAscends_e (cnames g.ends) (cnames g.acts))) fun v27 hv27 => ?_; cases hv27))
    <;> (first | refine kL 28 ?_ | refine xL 28 q_not ?_)
    <;> refine xL 29 q_pick ?_
    <;> refine aL_end (nav ?_) <;> try dsimp only) <;> (
   first | refine cCd (fun hb29 => ?_) (fun hb29 => ?_) | refine cC (fun hb29 => ?_) (fun hb29 => ?_)
   · first
     | exact Bool.noConfusion hb29
     | (
      refine nav ?_
      (refine aC_region ?_
        <;> refine xL 2 q_assign ?_
        <;> refine aL_end (nav ?_) <;> try dsimp only)
      refine ret_shr (Tryz.results16) rfl ?_
      first
        | rw [dfg_no (.inl (by simpa using hb14))]
        | rw [dfg_no (.inr (.inl (by simpa using hb22)))]
        | rw [dfg_no (.inr (.inr (.inl (by simpa using hb29))))])
   · first
     | exact Bool.noConfusion hb29
     | (
      refine nav ?_
      (refine aC_region ?_
        <;> refine xL 30 (q_fldo 1 tFl28_0_LbD) ?_
        <;> (refine yL 31 (q_ldo 1 tNa25_LbD) fun v31 hv31 => ?_; cases hv31)
        <;> refine xL 32 (q_fldo 1 tFl28_1_LbD) ?_
        <;> (refine yL 33 (q_ldo 1 tNa25_LbD) fun v33 hv33 => ?_; cases hv33)
        <;> refine xL 34 (q_fldo 1 tFl28_2_LbD) ?_
        <;> (refine yL 35 (q_ldo 1 tNa25_LbD) fun v35 hv35 => ?_; cases hv35)
        <;> refine s_litn (xs := [_, _, _]) 36 tEl103_LbD fun h36 ho36 => ?_
        <;> refine xL 37 (q_leno 36 tSl103_LbD) ?_
        <;> refine xL 38 q_move ?_
        <;> refine aL_end (nav ?_) <;> try dsimp only)
      have h1 : alphaB (cnames g.acts) = true := by simpa using hb14
      have h2 : ascB (cnames g.starts) (cnames g.acts) = true := by simpa using hb22
      have h3 : ascB (cnames g.ends) (cnames g.acts) = true := by simpa using hb29
      refine aC_loop (ι := { k : Nat // k ≤ 3 ∧ ∀ j x, j < k → [g.acts, g.starts, g.ends][j]? = some x → x.all (fun c => countedB c.n) = true }) (fun k => ⟨[(1, _, _), (3, _, _), (36, _, _), (37, _, _), (38, .int .i64 k.1, pInt k.1)], [(1, _, _), (36, _, _)]⟩) (fun k => 3 - k.1) ⟨0, by omega, by omega⟩ (fun a w H => H.weaken ⟨rfl, rfl, rfl, rfl, rfl, trivial⟩ ⟨rfl, rfl, trivial⟩) ?_
      rintro ⟨k, hk, hp⟩
      dsimp only
      refine nav ?_
      (refine aC_region ?_
        <;> refine xL 39 q_lss ?_
        <;> refine aL_end (nav ?_) <;> try dsimp only)
      first | refine cCd (fun hb39 => ?_) (fun hb39 => ?_) | refine cC (fun hb39 => ?_) (fun hb39 => ?_)
      · first
        | exact Bool.noConfusion hb39
        | (
         obtain ⟨x, hx⟩ := get_some (l := [g.acts, g.starts, g.ends]) (i := k) (by show k < 3; omega)
         have e1 : ([pCnts g.acts, pCnts g.starts, pCnts g.ends] : List PV)[k * 1]? = some (pCnts x) := map_at (f := pCnts) hx
         refine nav ?_
         (refine aC_region ?_
           <;> refine xL 40 (q_idxoN 36 tSl103_LbD) ?_
           <;> (refine yL 41 (q_ldo 36 tNa25_LbD) fun v41 hv41 => ?_; cases hv41)
           <;> refine xL 5 q_assign ?_
           <;> refine aL_end (nav ?_) <;> try dsimp only)
         (refine aC_region ?_
           <;> refine xL 42 q_move ?_
           <;> (refine cS 43 (cA Tryz.call56 (containsFuncCount_e 57 [] (fun c => !countedB c.n) x (Tryz.call57) (fun c _ => dValid1_e c))) fun v43 hv43 => ?_; cases hv43)
           <;> refine aL_end (nav ?_) <;> try dsimp only)
         first | refine cCd (fun hb43 => ?_) (fun hb43 => ?_) | refine cC (fun hb43 => ?_) (fun hb43 => ?_)
         · first
           | exact Bool.noConfusion hb43
           | (
            refine nav ?_
            (refine aC_region ?_
              <;> refine xL 2 q_assign ?_
              <;> refine aL_end (nav ?_) <;> try dsimp only)
            refine ret_shr (Tryz.results16) rfl ?_
            rw [any_not, Bool.not_eq_true'] at hb43
            match k, hk, hx with
            | 0, _, hx => cases hx; rw [dfg_no (.inr (.inr (.inr (.inl hb43))))]
            | 1, _, hx => cases hx; rw [dfg_no (.inr (.inr (.inr (.inr (.inl hb43)))))]
            | 2, _, hx => cases hx; rw [dfg_no (.inr (.inr (.inr (.inr (.inr (.inl hb43))))))]
            | k + 3, hk, hx => omega)
         · first
           | exact Bool.noConfusion hb43
           | (
            refine nav ?_
            (refine aC_region ?_
              <;> refine xL 44 q_add ?_
              <;> refine xL 38 q_move ?_
              <;> refine aL_end (nav ?_) <;> try dsimp only)
            refine aN_again (
              ⟨k + 1, by omega, fun j z hj hz => by
                by_cases e : j = k
                · subst e; rw [hx] at hz; cases hz; rw [any_not] at hb43; simpa using hb43
                · exact hp j z (by omega) hz⟩
              ) (by dsimp only; omega) ⟨rfl, rfl, rfl, rfl, rfl, trivial⟩ ⟨rfl, rfl, trivial⟩))
      · first
        | exact Bool.noConfusion hb39
        | (
         refine nav ?_
         (refine aC_region ?_
           <;> refine xL 45 (q_fldo 1 tFl28_3_LbD) ?_
           <;> (refine yL 46 (q_ldo 1 tNa26_LbD) fun v46 hv46 => ?_; cases hv46)
           <;> refine xL 47 (q_len tSl26_LbD) ?_
           <;> refine xL 48 q_move ?_
           <;> refine aL_end (nav ?_) <;> try dsimp only)
         obtain rfl : k = 3 := by omega
         have h4 := hp 0 g.acts (by omega) rfl
         have h5 := hp 1 g.starts (by omega) rfl
         have h6 := hp 2 g.ends (by omega) rfl
         clear hp
         refine aC_loop (ι := { k : Nat // k ≤ g.follows.length ∧ ∀ j x, j < k → g.follows[j]? = some x → flwOk (cnames g.acts) x = true ∧ ∀ y, 1 ≤ j → g.follows[j - 1]? = some y → flwLt y x = true }) (fun k => ⟨[(1, _, _), (3, _, _), (46, _, _), (47, _, _), (48, .int .i64 k.1, pInt k.1)], [(1, _, _)]⟩) (fun k => g.follows.length - k.1) ⟨0, by omega, by omega⟩ (fun a w H => H.weaken ⟨rfl, rfl, rfl, rfl, rfl, trivial⟩ ⟨rfl, trivial⟩) ?_
         rintro ⟨k, hk, hp⟩
         dsimp only
         refine nav ?_
         (refine aC_region ?_
           <;> refine xL 49 q_lss ?_
           <;> refine aL_end (nav ?_) <;> try dsimp only)
         first | refine cCd (fun hb49 => ?_) (fun hb49 => ?_) | refine cC (fun hb49 => ?_) (fun hb49 => ?_)
         · first
           | exact Bool.noConfusion hb49
           | (
            obtain ⟨x, hx⟩ := get_some (show k < g.follows.length by omega)
            obtain ⟨y, hy⟩ := get_some (show k - 1 < g.follows.length by omega)
            have e1 := flat_drop cFlw_len g.follows k x hx
            have e2 := flat_fit cFlw_len hx
            have e3 : ((g.follows.flatMap cFlw).drop (((k : Int) - 1).toNat * 3)).take 3 = cFlw y := by rw [show ((k : Int) - 1).toNat * 3 = (k - 1) * 3 by omega]; exact flat_drop cFlw_len g.follows (k - 1) y hy
            have e4 := flat_fit cFlw_len hy
            have hlf := hf.2.2.2.1
            refine nav ?_
            (refine aC_region ?_
              <;> refine xL 50 q_move ?_
              <;> refine xL 51 (q_idxN tSl26_LbD) ?_
              <;> (refine yL 52 (q_lda tAgg47_LbD) fun v52 hv52 => ?_; cases hv52)
              <;> refine s_alloc [(.string ByteArray.empty), (.string ByteArray.empty), (.int .i64 0)] 3 7 tZr47_LbD fun h7 => ?_
              <;> refine xL 6 q_assign ?_
              <;> refine s_sta 7 tAgg47_LbD ?_
              <;> refine aL_end (nav ?_) <;> try dsimp only)
            (refine aC_draw (fun i => ([] : List Nat).elem i) [1, 7] (by kernel_rfl) ?_
              <;> refine xE 0 53 rfl (q_fldo 7 tFl47_2_LbD) ?_
              <;> (refine yE 1 54 rfl (q_ldo 7 tNa3_LbD) fun v54 hv54 => ?_; cases hv54)
              <;> (refine aD_one 2 (by kernel_rfl) ?_)
              <;> (refine aW_run rfl fun w9 M9 N9 DQ back => ?_)
              <;> (refine cS 55 (cA Tryz.call58 (dCounted_e x.n)) fun v55 hv55 => ?_; cases hv55)
              <;> refine aL_end (back _ (nrm ?_))
              <;> refine xE 3 56 rfl q_not ?_
              <;> refine xE 4 57 rfl q_move ?_
              <;> (refine bD 57 (fun hb57 => ?_) (fun hb57 => ?_) <;> (first | refine kD 5 58 rfl ?_ | refine xD 5 58 rfl q_move ?_))
              <;> (first | refine kD 6 59 rfl ?_ | refine xD 6 59 rfl q_gtr ?_)
              <;> (first | refine kD 7 60 rfl ?_ | refine xD 7 60 rfl q_move ?_)
              <;> (first | refine kD 8 61 rfl ?_ | (refine bDd 60 (fun hb60 => ?_) (fun hb60 => ?_) <;> (first | refine kD 8 61 rfl ?_ | refine xD 8 61 rfl (q_fldo 1 tFl28_3_LbD) ?_)))
              <;> (first | refine kD 9 62 rfl ?_ | (refine yD 9 62 rfl (q_ldo 1 tNa26_LbD) fun v62 hv62 => ?_; cases hv62))
              <;> (first | refine kD 10 63 rfl ?_ | refine xD 10 63 rfl q_move ?_)
              <;> (first | refine kD 11 64 rfl ?_ | refine xD 11 64 rfl q_sub ?_)
              <;> (first | refine kD 12 65 rfl ?_ | refine xD 12 65 rfl (q_idx tSl26_LbD) ?_)
              <;> (first | refine kD 13 66 rfl ?_ | (refine yD 13 66 rfl (q_lda tAgg47_LbD) fun v66 hv66 => ?_; cases hv66))
              <;> (first | refine kD 14 67 rfl ?_ | (refine yD 14 67 rfl (q_ldao 7 tAgg47_LbD) fun v67 hv67 => ?_; cases hv67))
              <;> (refine aD_one 15 (by kernel_rfl) ?_)
              <;> (refine aW_run rfl fun w9 M9 N9 DQ back => ?_)
              <;> (first | refine kL 68 ?_ | (refine cS 68 (cA Tryz.call59 (dFollows_e y x)) fun v68 hv68 => ?_; cases hv68))
              <;> refine aL_end (back _ (nrm ?_))
              <;> (first | refine kD 16 69 rfl ?_ | refine xD 16 69 rfl q_geq ?_)
              <;> (first | refine kD 17 70 rfl ?_ | refine xD 17 70 rfl q_pick ?_)
              <;> refine xE 18 71 rfl q_pick ?_
              <;> refine xE 19 72 rfl q_move ?_
              <;> (first | refine kD 20 73 rfl ?_ | refine xD 20 73 rfl q_move ?_ | (refine bDd 72 (fun hb72 => ?_) (fun hb72 => ?_) <;> (first | refine kD 20 73 rfl ?_ | refine xD 20 73 rfl q_move ?_)))
              <;> (first | refine kD 21 74 rfl ?_ | refine xD 21 74 rfl (q_fldo 7 tFl47_0_LbD) ?_)
              <;> (first | refine kD 22 75 rfl ?_ | (refine yD 22 75 rfl (q_ldo 7 tNa9_LbD) fun v75 hv75 => ?_; cases hv75))
              <;> (refine aD_one 23 (by kernel_rfl) ?_)
              <;> (refine aW_run rfl fun w9 M9 N9 DQ back => ?_)
              <;> (first | refine kL 76 ?_ | (refine cS 76 (cA Tryz.call60 (sContainsStr_e (cnames g.acts) x.src)) fun v76 hv76 => ?_; cases hv76))
              <;> refine aL_end (back _ (nrm ?_))
              <;> (first | refine kD 24 77 rfl ?_ | refine xD 24 77 rfl q_not ?_)
              <;> refine xE 25 78 rfl q_pick ?_
              <;> refine xE 26 79 rfl q_move ?_
              <;> (first | refine kD 27 80 rfl ?_ | (refine bD 79 (fun hb79 => ?_) (fun hb79 => ?_) <;> (first | refine kD 27 80 rfl ?_ | refine xD 27 80 rfl q_move ?_)))
              <;> (first | refine kD 28 81 rfl ?_ | refine xD 28 81 rfl (q_fldo 7 tFl47_1_LbD) ?_)
              <;> (first | refine kD 29 82 rfl ?_ | (refine yD 29 82 rfl (q_ldo 7 tNa9_LbD) fun v82 hv82 => ?_; cases hv82))
              <;> (refine aD_one 30 (by kernel_rfl) ?_)
              <;> (refine aW_run rfl fun w9 M9 N9 DQ back => ?_)
              <;> (first | refine kL 83 ?_ | (refine cS 83 (cA Tryz.call60 (sContainsStr_e (cnames g.acts) x.dst)) fun v83 hv83 => ?_; cases hv83))
              <;> refine aL_end (back _ (nrm ?_))
              <;> (first | refine kD 31 84 rfl ?_ | refine xD 31 84 rfl q_not ?_)
              <;> refine xE 32 85 rfl q_pick ?_
              <;> refine aD_end (by kernel_rfl) (nav ?_)
              <;> try dsimp only) <;> (
             first | refine cCd (fun hb85 => ?_) (fun hb85 => ?_) | refine cC (fun hb85 => ?_) (fun hb85 => ?_)
             · first
               | exact Bool.noConfusion hb85
               | (
                refine nav ?_
                (refine aC_region ?_
                  <;> refine xL 2 q_assign ?_
                  <;> refine aL_end (nav ?_) <;> try dsimp only)
                refine ret_shr (Tryz.results16) rfl ?_
                first
                  | rw [dfg_no (.inr (.inr (.inr (.inr (.inr (.inr (.inl (all_stop hx (show flwOk (cnames g.acts) x = false by unfold flwOk; rw [show countedB x.n = false by simpa using hb57]; rfl)))))))))]
                  | rw [dfg_no (.inr (.inr (.inr (.inr (.inr (.inr (.inr (chainB_stop (by omega) hy hx (show flwLt y x = false from decide_eq_false (by omega))))))))))]
                  | rw [dfg_no (.inr (.inr (.inr (.inr (.inr (.inr (.inl (all_stop hx (show flwOk (cnames g.acts) x = false by unfold flwOk; rw [show hasStr (cnames g.acts) x.src = false by simpa using hb79]; simp)))))))))]
                  | rw [dfg_no (.inr (.inr (.inr (.inr (.inr (.inr (.inl (all_stop hx (show flwOk (cnames g.acts) x = false by unfold flwOk; rw [show hasStr (cnames g.acts) x.dst = false by simpa using hb85]; simp)))))))))])
             · first
               | exact Bool.noConfusion hb85
               | (
                refine nav ?_
                (refine aC_region ?_
                  <;> refine xL 86 q_add ?_
                  <;> refine xL 48 q_move ?_
                  <;> refine aL_end (nav ?_) <;> try dsimp only)
                refine aN_again (
                  ⟨k + 1, by omega, fun j z hj hz => by
                    by_cases e : j = k
                    · subst e; rw [hx] at hz; cases hz
                      refine ⟨by unfold flwOk; rw [show countedB x.n = true by simpa using hb57, show hasStr (cnames g.acts) x.src = true by simpa using hb79, show hasStr (cnames g.acts) x.dst = true by simpa using hb85]; rfl, fun y' h1 hy' => ?_⟩
                      rw [hy] at hy'; cases hy'
                      first | omega | exact decide_eq_true (by omega)
                    · exact hp j z (by omega) hz⟩
                  ) (by dsimp only; omega) ⟨rfl, rfl, rfl, rfl, rfl, trivial⟩ ⟨rfl, trivial⟩)))
         · first
           | exact Bool.noConfusion hb49
           | (
            refine nav ?_
            (refine aC_region ?_
              <;> refine xL 2 q_assign ?_
              <;> refine aL_end (nav ?_) <;> try dsimp only)
            refine ret_shr (Tryz.results16) rfl ?_
            have h7 : g.follows.all (flwOk (cnames g.acts)) = true := all_end fun j x hj => (hp j x (by have := lt_of_get hj; omega) hj).1
            have h8 : chainB flwLt g.follows = true := chainB_end fun j x y h1 hy hx => (hp j x (by have := lt_of_get hx; omega) hx).2 y h1 hy
            unfold dfgOk; rw [h1, h2, h3, h4, h5, h6, h7, h8]; rfl))))
end Go.Proofs.YtebcjijpdhbcdaaGreat
